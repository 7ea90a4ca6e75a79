/- Texts of this proof, part Pure. -/
noncomputable section
set_option linter.unusedVariables false
set_option linter.unusedSimpArgs false
set_option linter.unusedSectionVars false
namespace Go.Fsa
structure Aut where
 sy:Int
 st:Int
 acc:List Bool
 nxt:List (List Int)
def rowOK (sy:Int) (n:Nat) (r:List Int):Prop:=(r.length:Int)=sy∧∀ t∈r,¬t < -1∧¬(n:Int)≤t
instance (sy:Int) (n:Nat) (r:List Int):Decidable (rowOK sy n r):=inferInstanceAs (Decidable (_∧_))
structure Aut.valid (a:Aut):Prop where
 lo:¬a.sy<1
 hi:¬400<a.sy
 most:¬20000<a.acc.length
 len:a.nxt.length=a.acc.length
 st0:¬a.st<0
 st1:¬max (a.acc.length:Int) 1≤a.st
 rows:∀ r∈a.nxt,rowOK a.sy a.acc.length r
theorem Aut.valid_iff (a:Aut):a.valid↔(¬a.sy<1∧¬400<a.sy∧¬20000<a.acc.length∧a.nxt.length=a.acc.length∧¬a.st<0∧¬max (a.acc.length:Int) 1≤a.st∧∀ r∈a.nxt,rowOK a.sy a.acc.length r):=
 ⟨fun h=>⟨h.1,h.2,h.3,h.4,h.5,h.6,h.7⟩,fun h=>⟨h.1,h.2.1,h.2.2.1,h.2.2.2.1,h.2.2.2.2.1,h.2.2.2.2.2.1,h.2.2.2.2.2.2⟩⟩
instance (a:Aut):Decidable a.valid:=decidable_of_iff _ a.valid_iff.symm
def Aut.check (a:Aut):Int:=if a.valid then 0 else 60
def Aut.go (a:Aut) (x:Int) (c:Nat):Int:=if x<0 then -1 else ((a.nxt[x.toNat]?).bind fun r=>r[c]?).getD (-1)
def Aut.begin (a:Aut):Int:=if a.acc.length=0 then -1 else a.st
def Aut.accB (a:Aut) (x:Int):Bool:=decide (0≤x)&&(a.acc[x.toNat]?).getD false
def Aut.dom (a:Aut) (x:Int):Prop:=-1≤x∧x<(a.nxt.length:Nat)
theorem Aut.go_dom {a:Aut} (hv:a.valid) {x:Int} {c:Nat}:a.dom (a.go x c):=by
 unfold Aut.go
 split
 ·exact ⟨by omega,by omega⟩
 ·cases h1:a.nxt[x.toNat]? with
  | none=>exact ⟨by simp,by simp;omega⟩
  | some r=>
   cases h2:r[c]? with
   | none=>simp only [Option.bind_some,h2];exact ⟨by simp,by simp;omega⟩
   | some t=>
    simp only [Option.bind_some,h2,Option.getD_some]
    have:=(hv.rows r (List.mem_of_getElem? h1)).2 t (List.mem_of_getElem? h2)
    have:=hv.len
    exact ⟨by omega,by omega⟩
def pushAt (s:Int) (B:List (List Int)) (t:Int):List (List Int):=if 0≤t then B.set t.toNat ((B[t.toNat]?).getD []++[s]) else B
def backRow (s:Int) (r:List Int) (B:List (List Int)):List (List Int):=r.foldl (pushAt s) B
def backAll:Nat→List (List Int)→List (List Int)→List (List Int)
 | _,[],B=>B
 | s,r::rs,B=>backAll (s+1) rs (backRow s r B)
theorem pushAt_len {s t:Int} {B:List (List Int)}:(pushAt s B t).length=B.length:=by unfold pushAt;split<;>simp
theorem backRow_len {s:Int}:∀ {r:List Int} {B:List (List Int)},(backRow s r B).length=B.length
 | [],B=>rfl
 | t::r,B=>by
  have:=backRow_len (s:=s) (r:=r) (B:=pushAt s B t)
  rw [pushAt_len] at this;exact this
end Go.Fsa
namespace Go.Fsa
inductive Live (acc:List Bool) (rows:List (List Int)):Nat→Prop
 | acc {s:Nat}:acc[s]? =some true→Live acc rows s
 | step {s t:Nat} {r:List Int}:rows[s]? =some r→(t:Int)∈r→Live acc rows t→Live acc rows s
abbrev at_ (B:List (List Int)) (t:Nat):List Int:=(B[t]?).getD []
theorem mem_pushAt {s u:Int} {B:List (List Int)} {t:Nat} {x:Int} (ht:t<B.length):x∈at_ (pushAt s B u) t↔x∈at_ B t∨(u=t∧x=s):=by
 unfold pushAt at_
 split
 ·rename_i h
  rw [List.getElem?_set]
  split
  ·rename_i e
   subst e
   simp only [ht,if_true,Option.getD_some,List.mem_append,List.mem_singleton]
   have:u=((u.toNat:Nat):Int):=by omega
   constructor
   ·rintro (h | h)
    ·exact .inl h
    ·exact .inr ⟨this,h⟩
   ·rintro (h | ⟨_,h⟩)
    ·exact .inl h
    ·exact .inr h
  ·rename_i e
   constructor
   ·exact fun h=>.inl h
   ·rintro (h | ⟨h,_⟩)
    ·exact h
    ·exact absurd (by omega:u.toNat=t) e
 ·rename_i h
  constructor
  ·exact fun h=>.inl h
  ·rintro (h | ⟨h',_⟩)
   ·exact h
   ·omega
theorem mem_backRow {s:Int}:∀ {r:List Int} {B:List (List Int)} {t:Nat} {x:Int},t<B.length→(x∈at_ (backRow s r B) t↔x∈at_ B t∨((t:Int)∈r∧x=s))
 | [],B,t,x,ht=>by simp [backRow]
 | u::r,B,t,x,ht=>by
  have:=mem_backRow (s:=s) (r:=r) (B:=pushAt s B u) (t:=t) (x:=x) (by rw [pushAt_len];exact ht)
  show x∈at_ (backRow s r (pushAt s B u)) t↔_
  rw [this,mem_pushAt ht,List.mem_cons]
  constructor
  ·rintro ((h | ⟨h,h'⟩) | ⟨h,h'⟩)
   ·exact .inl h
   ·exact .inr ⟨.inl h.symm,h'⟩
   ·exact .inr ⟨.inr h,h'⟩
  ·rintro (h | ⟨h | h,h'⟩)
   ·exact .inl (.inl h)
   ·exact .inl (.inr ⟨h.symm,h'⟩)
   ·exact .inr ⟨h,h'⟩
theorem mem_backAll:∀ {rs:List (List Int)} {s0:Nat} {B:List (List Int)} {t:Nat} {x:Int},t<B.length→(x∈at_ (backAll s0 rs B) t↔x∈at_ B t∨∃ j r,rs[j]? =some r∧(t:Int)∈r∧x=((s0+j:Nat):Int))
 | [],s0,B,t,x,ht=>by simp [backAll]
 | u::rs,s0,B,t,x,ht=>by
  show x∈at_ (backAll (s0+1) rs (backRow s0 u B)) t↔_
  rw [mem_backAll (by rw [backRow_len];exact ht),mem_backRow ht]
  constructor
  ·rintro ((h | ⟨h,h'⟩) | ⟨j,r,h1,h2,h3⟩)
   ·exact .inl h
   ·exact .inr ⟨0,u,rfl,h,by simpa using h'⟩
   ·exact .inr ⟨j+1,r,h1,h2,by rw [h3];congr 1;omega⟩
  ·rintro (h | ⟨j,r,h1,h2,h3⟩)
   ·exact .inl (.inl h)
   ·cases j with
    | zero=>
     simp only [List.getElem?_cons_zero,Option.some.injEq] at h1
     subst h1
     exact .inl (.inr ⟨h2,by simpa using h3⟩)
    | succ j=>exact .inr ⟨j,r,by simpa using h1,h2,by rw [h3];congr 1;omega⟩
theorem mem_back {rows:List (List Int)} {n t:Nat} {x:Int} (ht:t<n):x∈at_ (backAll 0 rows (List.replicate n [])) t↔∃ j r,rows[j]? =some r∧(t:Int)∈r∧x=((j:Nat):Int):=by
 rw [mem_backAll (by simpa using ht)]
 simp [at_,List.getElem?_replicate,ht]
theorem nodup_le:∀ {n:Nat} {l:List Int},l.Nodup→(∀ x∈l,0≤x∧x<(n:Int))→l.length≤n
 | 0,l,_,h=>by
  cases l with
  | nil=>simp
  | cons x l=>have:=h x (List.mem_cons_self ..);omega
 | n+1,l,hd,h=>by
  by_cases hn:(n:Int)∈l
  ·have h1:=nodup_le (n:=n) (l:=l.erase n) (hd.erase _) (fun x hx=>by
    rw [hd.mem_erase_iff] at hx
    have:=h x hx.2
    have:=hx.1
    omega)
   rw [List.length_erase_of_mem hn] at h1
   omega
  ·have:=nodup_le (n:=n) (l:=l) hd (fun x hx=>by
    have:=h x hx
    have:x≠n:=fun e=>hn (e▸hx)
    omega)
   omega
structure LiveQ (acc:List Bool) (rows:List (List Int)) (n i:Nat) (q:List Int) (seen:List Bool):Prop where
 len:seen.length=n
 seen:∀ j,j<n→(seen[j]? =some true↔(j:Int)∈q)
 nodup:q.Nodup
 dom:∀ x∈q,0≤x∧x<(n:Int)
 live:∀ x∈q,Live acc rows x.toNat
theorem LiveQ.add {acc:List Bool} {rows:List (List Int)} {n i j:Nat} {q:List Int} {seen:List Bool} (h:LiveQ acc rows n i q seen) (hj:j<n) (hs:seen[j]?≠some true) (hl:Live acc rows j):LiveQ acc rows n i (q++[(j:Int)]) (seen.set j true):=by
 have hjq:(j:Int)∉q:=fun e=>hs ((h.seen j hj).2 e)
 refine ⟨by simp [h.len],fun k hk=>?_,?_,?_,?_⟩
 ·rw [List.getElem?_set,List.mem_append,List.mem_singleton]
  by_cases e:j=k
  ·subst e
   simp [h.len,hj]
  ·rw [if_neg e,h.seen k hk]
   constructor
   ·exact fun h=>.inl h
   ·rintro (h | h)
    ·exact h
    ·exact absurd (by omega:j=k) e
 ·rw [List.nodup_append]
  exact ⟨h.nodup,by simp,fun a ha b hb e=>by
   rw [List.mem_singleton] at hb
   exact hjq (by rw [← hb,← e];exact ha)⟩
 ·intro x hx
  rw [List.mem_append,List.mem_singleton] at hx
  rcases hx with hx | rfl
  ·exact h.dom x hx
  ·omega
 ·intro x hx
  rw [List.mem_append,List.mem_singleton] at hx
  rcases hx with hx | rfl
  ·exact h.live x hx
  ·simpa using hl
theorem LiveQ.all {acc:List Bool} {rows:List (List Int)} {n i:Nat} {q:List Int} {seen:List Bool} (h:LiveQ acc rows n i q seen) (hlen:acc.length=n) (hrows:rows.length=n)
  (h1:∀ j:Nat,acc[j]? =some true→(j:Int)∈q) (h2:∀ x∈q,∀ p∈at_ (backAll 0 rows (List.replicate n [])) x.toNat,p∈q) (s:Nat):((s:Int)∈q↔Live acc rows s):=by
 constructor
 ·intro hs
  simpa using h.live _ hs
 ·intro hl
  induction hl with
  | acc hs=>exact h1 _ hs
  | @step s t r hr ht hl ih=>
   have:=(h.dom _ ih).2
   exact h2 _ ih s ((mem_back (by omega)).2 ⟨s,r,hr,by simpa using ht,rfl⟩)
end Go.Fsa
namespace Go.Fsa
section
variable {K:Type} [DecidableEq K]
def numK (ks:List K) (k:K):Nat:=(ks.findIdx? fun y=>decide (k=y)).getD ks.length
def addK (ks:List K) (k:K):List K:=if k∈ks then ks else ks++[k]
def numAll (ks:List K):List K→List Nat×List K
 | []=>([],ks)
 | k::l=>(numK ks k::(numAll (addK ks k) l).1,(numAll (addK ks k) l).2)
theorem numK_some {ks:List K} {k:K} (h:k∈ks):ks[numK ks k]? =some k:=by
 unfold numK
 cases hf:ks.findIdx? fun y=>decide (k=y) with
 | none=>
  rw [List.findIdx?_eq_none_iff] at hf
  have:=hf k h
  simp at this
 | some i=>
  obtain ⟨h1,h2,_⟩:=List.findIdx?_eq_some_iff_getElem.1 hf
  simp only [decide_eq_true_eq] at h2
  rw [Option.getD_some,List.getElem?_eq_getElem h1,← h2]
theorem numK_none {ks:List K} {k:K} (h:k∉ks):numK ks k=ks.length:=by
 unfold numK
 have:(ks.findIdx? fun y=>decide (k=y))=none:=by
  rw [List.findIdx?_eq_none_iff]
  intro x hx
  simp only [decide_eq_false_iff_not]
  exact fun e=>h (e▸hx)
 rw [this];rfl
theorem numK_add {ks:List K} {k:K}:(addK ks k)[numK ks k]? =some k:=by
 unfold addK
 split
 ·rename_i h;exact numK_some h
 ·rename_i h;rw [numK_none h];simp
theorem addK_prefix {ks:List K} {k:K}:ks <+: addK ks k:=by
 unfold addK
 split
 ·exact List.prefix_refl _
 ·exact List.prefix_append _ _
theorem addK_nodup {ks:List K} {k:K} (h:ks.Nodup):(addK ks k).Nodup:=by
 unfold addK
 split
 ·exact h
 ·rename_i hk
  rw [List.nodup_append]
  exact ⟨h,by simp,fun a ha b hb e=>by rw [List.mem_singleton] at hb;exact hk (by rw [← hb,← e];exact ha)⟩
theorem mem_addK {ks:List K} {k x:K}:x∈addK ks k↔x∈ks∨x=k:=by
 unfold addK
 split
 ·rename_i h
  constructor
  ·exact fun h=>.inl h
  ·rintro (h' | rfl)
   ·exact h'
   ·exact h
 ·simp
theorem prefix_get {A B:List K} (h:A <+: B) {i:Nat} {x:K} (hx:A[i]? =some x):B[i]? =some x:=by
 obtain ⟨t,rfl⟩:=h
 have:i<A.length:=by
  rcases Nat.lt_or_ge i A.length with g | g
  ·exact g
  ·rw [List.getElem?_eq_none g] at hx;cases hx
 rw [List.getElem?_append_left this];exact hx
theorem nodup_get {A:List K} (h:A.Nodup) {i j:Nat} {x:K} (hi:A[i]? =some x) (hj:A[j]? =some x):i=j:=by
 have li:i<A.length:=by
  rcases Nat.lt_or_ge i A.length with g | g
  ·exact g
  ·rw [List.getElem?_eq_none g] at hi;cases hi
 have lj:j<A.length:=by
  rcases Nat.lt_or_ge j A.length with g | g
  ·exact g
  ·rw [List.getElem?_eq_none g] at hj;cases hj
 rw [List.getElem?_eq_getElem li,Option.some.injEq] at hi
 rw [List.getElem?_eq_getElem lj,Option.some.injEq] at hj
 exact (List.getElem_inj h).1 (hi.trans hj.symm)
def dc:List K→Nat
 | []=>0
 | x::l=>dc l+(if x∈l then 0 else 1)
theorem dc_le:∀ (l:List K),dc l≤l.length
 | []=>Nat.le_refl _
 | x::l=>by
  have:=dc_le l
  simp only [dc,List.length_cons]
  split<;>omega
theorem dc_of:∀ {l A:List K},A.Nodup→(∀ x,x∈A↔x∈l)→A.length=dc l
 | [],A,_,h=>by
  cases A with
  | nil=>rfl
  | cons x A=>have:=(h x).1 (List.mem_cons_self ..);cases this
 | x::l,A,hA,h=>by
  simp only [dc]
  by_cases hx:x∈l
  ·rw [if_pos hx,Nat.add_zero]
   exact dc_of hA (fun y=>by
    rw [h y,List.mem_cons]
    constructor
    ·rintro (rfl | h)
     ·exact hx
     ·exact h
    ·exact fun h=>.inr h)
  ·rw [if_neg hx]
   have hxA:x∈A:=(h x).2 (List.mem_cons_self ..)
   have:=dc_of (l:=l) (A:=A.erase x) (hA.erase _) (fun y=>by
    rw [hA.mem_erase_iff,h y,List.mem_cons]
    constructor
    ·rintro ⟨h1,h2 | h2⟩
     ·exact absurd h2 h1
     ·exact h2
    ·exact fun h=>⟨fun e=>hx (e▸h),.inr h⟩)
   rw [List.length_erase_of_mem hxA] at this
   have:=List.length_pos_of_mem hxA
   omega
end
theorem dc_mono {K L:Type} [DecidableEq K] [DecidableEq L] {f:Nat→K} {g:Nat→L}:∀ {I:List Nat},(∀ i∈I,∀ j∈I,f i=f j→g i=g j)→dc (I.map g)≤dc (I.map f)∧(dc (I.map g)=dc (I.map f)→∀ i∈I,∀ j∈I,g i=g j→f i=f j)
 | [],_=>⟨Nat.le_refl _,fun _ i hi=>by cases hi⟩
 | i::I,h=>by
  obtain ⟨ih1,ih2⟩:=dc_mono (I:=I) (fun a ha b hb=>h a (List.mem_cons_of_mem _ ha) b (List.mem_cons_of_mem _ hb))
  have key:f i∈I.map f→g i∈I.map g:=by
   intro hm
   obtain ⟨k,hk,e⟩:=List.mem_map.1 hm
   exact List.mem_map.2 ⟨k,hk,h k (List.mem_cons_of_mem _ hk) i (List.mem_cons_self ..) e⟩
  simp only [List.map_cons,dc]
  refine ⟨by split<;>split<;>first | omega | (rename_i a b;exact absurd (key b) a),fun he=>?_⟩
  have hinc:(g i∈I.map g→f i∈I.map f)∧dc (I.map g)=dc (I.map f):=by
   by_cases a:g i∈I.map g
   ·by_cases b:f i∈I.map f
    ·rw [if_pos a,if_pos b] at he;exact ⟨fun _=>b,by omega⟩
    ·rw [if_pos a,if_neg b] at he;omega
   ·have b:f i∉I.map f:=fun b=>a (key b)
    rw [if_neg a,if_neg b] at he
    exact ⟨fun h=>absurd h a,by omega⟩
  have ih:=ih2 hinc.2
  have one:∀ j∈I,g i=g j→f i=f j:=by
   intro j hj e
   obtain ⟨k,hk,e2⟩:=List.mem_map.1 (hinc.1 (List.mem_map.2 ⟨j,hj,e.symm⟩))
   have e3:=h k (List.mem_cons_of_mem _ hk) i (List.mem_cons_self ..) e2
   rw [← e2]
   exact ih k hk j hj (e3.trans e)
  intro a ha b hb e
  rcases List.mem_cons.1 ha with e1 | ha
  ·rcases List.mem_cons.1 hb with e2 | hb
   ·rw [e1,e2]
   ·rw [e1] at e ⊢;exact one b hb e
  ·rcases List.mem_cons.1 hb with e2 | hb
   ·rw [e2] at e ⊢;exact (one a ha e.symm).symm
   ·exact ih a ha b hb e
end Go.Fsa
namespace Go.Fsa
def iter {K:Type} [DecidableEq K] (keys:List Nat→List K):Nat→Nat→List Nat→Option (List Nat)
 | 0,_,_=>none
 | F+1,cnt,cl=>if (numAll [] (keys cl)).2.length=cnt then some (numAll [] (keys cl)).1 else iter keys F (numAll [] (keys cl)).2.length (numAll [] (keys cl)).1
end Go.Fsa
namespace Go.Fsa
def dgt (d:Nat):Nat:=if d<10 then 48+d else 87+d
def dig:Nat→Nat→List Nat
 | 0,_=>[]
 | f+1,u=>if u<36 then [dgt u] else dig f (u / 36)++[dgt (u % 36)]
def kpart (o:Option Nat):List Nat:=32::(o.map (dig 13)).getD []
def keyNum (c:Nat) (l:List (Option Nat)):List Nat:=dig 13 c++(l.map kpart).flatten
end Go.Fsa
namespace Go.Fsa
def keyAt (lv:List Bool) (rows:List (List Int)) (cl:List Nat) (i:Nat):List Nat:=
 if lv[i]? =some true then keyNum ((cl[i]?).getD 0) (((rows[i]?).getD []).map fun t=>if 0≤t∧lv[t.toNat]? =some true then some ((cl[t.toNat]?).getD 0) else none) else [45]
end Go.Fsa
namespace Go.Fsa
theorem Aut.go_some {a:Aut} (hv:a.valid) {s:Int} (h0:0≤s) (h1:s<(a.nxt.length:Nat)) {c:Nat} (hc:(c:Int)<a.sy):∃ r,a.nxt[s.toNat]? =some r∧r[c]? =some (a.go s c):=by
 obtain ⟨r,hr⟩:∃ r,a.nxt[s.toNat]? =some r:=⟨_,List.getElem?_eq_getElem (by omega)⟩
 have hl:=(hv.rows r (List.mem_of_getElem? hr)).1
 obtain ⟨x,hx⟩:∃ x,r[c]? =some x:=⟨_,List.getElem?_eq_getElem (by omega)⟩
 refine ⟨r,hr,?_⟩
 rw [hx]
 simp [Aut.go,show ¬s<0 by omega,hr,hx]
theorem Aut.go_neg {a:Aut} {s:Int} (h:s<0) {c:Nat}:a.go s c=-1:=by simp [Aut.go,h]
def Aut.run (a:Aut):Int→List Int→Option Int
 | s,[]=>if s<0 then none else some s
 | s,c::w=>if c<0∨a.sy≤c then none else a.run (a.go s c.toNat) w
theorem Aut.run_neg {a:Aut}:∀ {w:List Int} {s:Int},s<0→a.run s w=none
 | [],s,h=>by simp [Aut.run,h]
 | c::w,s,h=>by
  simp only [Aut.run]
  split
  ·rfl
  ·rw [Aut.go_neg h];exact Aut.run_neg (by omega)
def Aut.lead (a:Aut) (f:Int) (w:List Int):Option Int:=if a.check=0∧0≤f∧f<(a.nxt.length:Nat) then a.run f w else none
def Aut.accepts (a:Aut) (w:List Int):Bool:=match a.lead a.st w with
 | some s=>(a.acc[s.toNat]?).getD false
 | none=>false
theorem Aut.check_valid {a:Aut}:a.check=0↔a.valid:=by
 unfold Aut.check
 split
 ·rename_i h;exact ⟨fun _=>h,fun _=>rfl⟩
 ·rename_i h;exact ⟨fun h=>by omega,fun h'=>absurd h' h⟩
theorem Aut.run_word {a:Aut}:∀ {w:List Int} {s:Int},(w.any fun x=>decide (x<0∨a.sy≤x))=true→a.run s w=none
 | [],s,h=>by simp at h
 | c::w,s,h=>by
  rw [List.any_cons,Bool.or_eq_true,decide_eq_true_eq] at h
  simp only [Aut.run]
  split
  ·rfl
  ·rename_i hc
   rcases h with h | h
   ·exact absurd h hc
   ·exact Aut.run_word h
end Go.Fsa
namespace Go.Fsa
section
variable {K:Type} [DecidableEq K]
def numO:List K→List (Option K)→List Int×List K
 | ks,[]=>([],ks)
 | ks,none::l=>(-1::(numO ks l).1,(numO ks l).2)
 | ks,some k::l=>((numK ks k:Int)::(numO (addK ks k) l).1,(numO (addK ks k) l).2)
theorem numO_len:∀ {l:List (Option K)} {ks:List K},(numO ks l).1.length=l.length
 | [],ks=>rfl
 | none::l,ks=>by simp only [numO,List.length_cons,numO_len]
 | some k::l,ks=>by simp only [numO,List.length_cons,numO_len]
theorem numO_prefix:∀ {l:List (Option K)} {ks:List K},ks <+: (numO ks l).2
 | [],ks=>List.prefix_refl _
 | none::l,ks=>numO_prefix (l:=l)
 | some k::l,ks=>addK_prefix.trans (numO_prefix (l:=l) (ks:=addK ks k))
theorem numO_nodup:∀ {l:List (Option K)} {ks:List K},ks.Nodup→(numO ks l).2.Nodup
 | [],ks,h=>h
 | none::l,ks,h=>numO_nodup (l:=l) h
 | some k::l,ks,h=>numO_nodup (l:=l) (addK_nodup h)
theorem mem_numO:∀ {l:List (Option K)} {ks:List K} {x:K},x∈(numO ks l).2↔x∈ks∨some x∈l
 | [],ks,x=>by simp [numO]
 | none::l,ks,x=>by
  show x∈(numO ks l).2↔_
  rw [mem_numO (l:=l)];simp
 | some k::l,ks,x=>by
  show x∈(numO (addK ks k) l).2↔_
  rw [mem_numO (l:=l),mem_addK,List.mem_cons,Option.some.injEq,or_assoc]
theorem numO_get:∀ {l:List (Option K)} {ks:List K} {i:Nat} {k:K},l[i]? =some (some k)→∃ n:Nat,(numO ks l).1[i]? =some (n:Int)∧(numO ks l).2[n]? =some k
 | [],ks,i,k,h=>by simp at h
 | none::l,ks,0,k,h=>by simp at h
 | none::l,ks,i+1,k,h=>by
  simp only [List.getElem?_cons_succ] at h
  obtain ⟨n,h1,h2⟩:=numO_get (ks:=ks) h
  exact ⟨n,by simpa [numO] using h1,h2⟩
 | some x::l,ks,0,k,h=>by
  simp only [List.getElem?_cons_zero,Option.some.injEq] at h
  subst h
  exact ⟨numK ks x,rfl,prefix_get (numO_prefix (l:=l)) numK_add⟩
 | some x::l,ks,i+1,k,h=>by
  simp only [List.getElem?_cons_succ] at h
  obtain ⟨n,h1,h2⟩:=numO_get (ks:=addK ks x) h
  exact ⟨n,by simpa [numO] using h1,h2⟩
theorem numO_none:∀ {l:List (Option K)} {ks:List K} {i:Nat},l[i]? =some none→(numO ks l).1[i]? =some (-1)
 | [],ks,i,h=>by simp at h
 | none::l,ks,0,h=>rfl
 | none::l,ks,i+1,h=>by
  simp only [List.getElem?_cons_succ] at h
  show (numO ks l).1[i]? =_
  exact numO_none h
 | some x::l,ks,0,h=>by simp at h
 | some x::l,ks,i+1,h=>by
  simp only [List.getElem?_cons_succ] at h
  show (numO (addK ks x) l).1[i]? =_
  exact numO_none h
theorem numO_iff {l:List (Option K)} {i j:Nat} {x y:K} {a b:Int} (hx:l[i]? =some (some x)) (hy:l[j]? =some (some y)) (hi:(numO [] l).1[i]? =some a) (hj:(numO [] l).1[j]? =some b):a=b↔x=y:=by
 obtain ⟨n,h1,h2⟩:=numO_get (ks:=[]) hx
 obtain ⟨m,g1,g2⟩:=numO_get (ks:=[]) hy
 rw [h1,Option.some.injEq] at hi
 rw [g1,Option.some.injEq] at hj
 subst hi hj
 constructor
 ·intro h
  have:n=m:=by omega
  subst this
  rw [h2] at g2
  exact Option.some.inj g2
 ·rintro rfl
  rw [nodup_get (numO_nodup List.nodup_nil) h2 g2]
end
end Go.Fsa
namespace Go.Fsa
section
variable {K:Type} [DecidableEq K]
theorem numO_snoc_none:∀ {l:List (Option K)} {ks:List K},numO ks (l++[none])=((numO ks l).1++[-1],(numO ks l).2)
 | [],ks=>rfl
 | none::l,ks=>by simp only [List.cons_append,numO,numO_snoc_none (l:=l)]
 | some k::l,ks=>by simp only [List.cons_append,numO,numO_snoc_none (l:=l)]
theorem numO_snoc:∀ {l:List (Option K)} {ks:List K} {k:K},numO ks (l++[some k])=((numO ks l).1++[(numK (numO ks l).2 k:Int)],addK (numO ks l).2 k)
 | [],ks,k=>rfl
 | none::l,ks,k=>by simp only [List.cons_append,numO,numO_snoc (l:=l)]
 | some x::l,ks,k=>by simp only [List.cons_append,numO,numO_snoc (l:=l)]
theorem numK_c {x k:K} {ks:List K}:numK (x::ks) k=if k=x then 0 else numK ks k+1:=by
 unfold numK
 rw [List.findIdx?_cons]
 by_cases h:k=x
 ·simp [h]
 ·simp only [h,decide_false,if_false]
  cases List.findIdx? (fun y=>decide (k=y)) ks<;>simp
theorem numK_of:∀ {ks:List K} {k:K} {m:Nat},ks[m]? =some k→(∀ j,j<m→ks[j]?≠some k)→numK ks k=m
 | [],k,m,h,_=>by simp at h
 | x::ks,k,0,h,_=>by
  simp only [List.getElem?_cons_zero,Option.some.injEq] at h
  rw [numK_c,if_pos h.symm]
 | x::ks,k,m+1,h,g=>by
  simp only [List.getElem?_cons_succ] at h
  have h0:=g 0 (Nat.succ_pos _)
  simp only [List.getElem?_cons_zero,ne_eq,Option.some.injEq] at h0
  rw [numK_c,if_neg (fun e=>h0 e.symm),numK_of h fun j hj=>by
   have:=g (j+1) (by omega)
   simpa using this]
theorem numK_lt {ks:List K} {k:K} (h:k∈ks):numK ks k<ks.length:=by
 have:=numK_some h
 rcases Nat.lt_or_ge (numK ks k) ks.length with g | g
 ·exact g
 ·rw [List.getElem?_eq_none g] at this;cases this
theorem numO_hi:∀ {l:List (Option K)} {ks:List K},∀ x∈(numO ks l).1,x<((numO ks l).2.length:Nat)
 | [],ks,x,h=>by simp [numO] at h
 | none::l,ks,x,h=>by
  simp only [numO,List.mem_cons] at h
  rcases h with rfl | h
  ·omega
  ·exact numO_hi (l:=l) (ks:=ks) x h
 | some k::l,ks,x,h=>by
  simp only [numO,List.mem_cons] at h
  rcases h with rfl | h
  ·have h1:=numK_lt (ks:=addK ks k) (k:=k) (mem_addK.2 (.inr rfl))
   have h2:=(numO_prefix (l:=l) (ks:=addK ks k)).length_le
   have h3:numK ks k<(addK ks k).length:=by
    rcases Nat.lt_or_ge (numK ks k) (addK ks k).length with g | g
    ·exact g
    ·have:=numK_add (ks:=ks) (k:=k)
     rw [List.getElem?_eq_none g] at this;cases this
   simp only [numO];omega
  ·exact numO_hi (l:=l) (ks:=addK ks k) x h
theorem numO_count:∀ {l:List (Option K)} {ks:List K},(numO ks l).2.length≤ks.length+l.length
 | [],ks=>by simp [numO]
 | none::l,ks=>by
  have:=numO_count (l:=l) (ks:=ks)
  simp only [numO,List.length_cons];omega
 | some k::l,ks=>by
  have:=numO_count (l:=l) (ks:=addK ks k)
  have h2:(addK ks k).length≤ks.length+1:=by unfold addK;split<;>simp
  simp only [numO,List.length_cons];omega
end
end Go.Fsa
namespace Go.Fsa
open Classical in
def Aut.liveL (a:Aut):List Bool:=(List.range a.acc.length).map fun i=>decide (Live a.acc a.nxt i)
theorem Aut.liveL_len {a:Aut}:a.liveL.length=a.acc.length:=by simp [Aut.liveL]
theorem Aut.liveL_get {a:Aut} {i:Nat}:a.liveL[i]? =some true↔i<a.acc.length∧Live a.acc a.nxt i:=by
 unfold Aut.liveL
 rw [List.getElem?_map,Option.map_eq_some_iff]
 constructor
 ·rintro ⟨j,h1,h2⟩
  have hj:i<a.acc.length:=by
   rcases Nat.lt_or_ge i a.acc.length with g | g
   ·exact g
   ·rw [List.getElem?_eq_none (by simpa using g)] at h1;cases h1
  rw [List.getElem?_range hj,Option.some.injEq] at h1
  subst h1
  exact ⟨hj,by simpa using h2⟩
 ·rintro ⟨h1,h2⟩
  exact ⟨i,List.getElem?_range h1,by simpa using h2⟩
def falses (l:List Bool):Nat:=l.count false
theorem falses_set {l:List Bool} {i:Nat} (h:l[i]? =some false):falses (l.set i true)+1=falses l:=by
 induction l generalizing i with
 | nil=>simp at h
 | cons b l ih=>
  cases i with
  | zero=>
   simp only [List.getElem?_cons_zero,Option.some.injEq] at h
   subst h
   simp [falses]
  | succ i=>
   simp only [List.getElem?_cons_succ] at h
   have:=ih h
   cases b
   ·simp only [falses,List.set_cons_succ,List.count_cons_self] at this ⊢;omega
   ·simp only [falses,List.set_cons_succ] at this ⊢
    rw [List.count_cons_of_ne (by decide),List.count_cons_of_ne (by decide)];exact this
structure LiveI (a:Aut) (is:List Bool):Prop where
 len:is.length=a.acc.length
 acc:∀ i:Nat,a.acc[i]? =some true→is[i]? =some true
 ok:∀ i:Nat,is[i]? =some true→Live a.acc a.nxt i
def shut (a:Aut) (is:List Bool) (i k:Nat):Prop:=∀ r c t,a.nxt[i]? =some r→c<k→r[c]? =some t→0≤t→is[t.toNat]?≠some true
theorem LiveI.start {a:Aut}:LiveI a a.acc:=⟨rfl,fun _ h=>h,fun _ h=>.acc h⟩
theorem LiveI.add {a:Aut} {is:List Bool} (h:LiveI a is) {i:Nat} (hl:Live a.acc a.nxt i):LiveI a (is.set i true):=by
 refine ⟨by rw [List.length_set];exact h.len,fun j hj=>?_,fun j hj=>?_⟩
 ·rw [List.getElem?_set]
  have:=h.acc j hj
  split
  ·rename_i e
   subst e
   rw [if_pos]
   rcases Nat.lt_or_ge i is.length with g | g
   ·exact g
   ·rw [List.getElem?_eq_none g] at this;cases this
  ·exact this
 ·rw [List.getElem?_set] at hj
  split at hj
  ·rename_i e;subst e;exact hl
  ·exact h.ok j hj
theorem LiveI.done {a:Aut} (hv:a.valid) {is:List Bool} (h:LiveI a is) (hs:∀ i,i<a.acc.length→is[i]? =some false→shut a is i a.sy.toNat):is=a.liveL:=by
 have key:∀ i,Live a.acc a.nxt i→is[i]? =some true:=by
  intro i hl
  induction hl with
  | acc g=>exact h.acc _ g
  | @step s t r g1 g2 _ ih=>
   have hs':s<a.acc.length:=by
    rw [← hv.len]
    rcases Nat.lt_or_ge s a.nxt.length with g | g
    ·exact g
    ·rw [List.getElem?_eq_none g] at g1;cases g1
   obtain ⟨b,hb⟩:∃ b,is[s]? =some b:=⟨_,List.getElem?_eq_getElem (by rw [h.len];exact hs')⟩
   cases b with
   | true=>exact hb
   | false=>
    obtain ⟨c,hc,he⟩:=List.getElem_of_mem g2
    have hr:=(hv.rows r (List.mem_of_getElem? g1)).1
    have:=hs s hs' hb r c (t:Int) g1 (by omega) (by rw [List.getElem?_eq_getElem hc,he]) (by omega)
    rw [Int.toNat_natCast] at this
    exact absurd ih this
 refine List.ext_getElem? fun i=>?_
 rcases Nat.lt_or_ge i a.acc.length with g | g
 ·obtain ⟨b,hb⟩:∃ b,is[i]? =some b:=⟨_,List.getElem?_eq_getElem (by rw [h.len];exact g)⟩
  obtain ⟨b',hb'⟩:∃ b,a.liveL[i]? =some b:=⟨_,List.getElem?_eq_getElem (by rw [Aut.liveL_len];exact g)⟩
  rw [hb,hb']
  cases b with
  | true=>rw [Aut.liveL_get.2 ⟨g,h.ok i hb⟩] at hb';exact hb'
  | false=>
   cases b' with
   | false=>rfl
   | true=>rw [key i (Aut.liveL_get.1 hb').2] at hb;cases hb
 ·rw [List.getElem?_eq_none (by rw [h.len];exact g),List.getElem?_eq_none (by rw [Aut.liveL_len];exact g)]
end Go.Fsa
namespace Go.Fsa
def clAt (cl:List Int) (t:Int):Int:=if 0≤t then (cl[t.toNat]?).getD 0 else -1
def Aut.keyC (a:Aut) (cl:List Int) (i:Nat):List Int:=(cl[i]?).getD 0::((a.nxt[i]?).getD []).map (clAt cl)
def Aut.keysC (a:Aut) (cl:List Int):List (Option (List Int)):=(List.range a.acc.length).map fun i=>if (cl[i]?).getD 0<0 then none else some (a.keyC cl i)
def Aut.iterC (a:Aut):Nat→Nat→List Int→Option (List Int)
 | 0,_,_=>none
 | F+1,cnt,cl=>if (numO [] (a.keysC cl)).2.length=cnt then some (numO [] (a.keysC cl)).1 else a.iterC F (numO [] (a.keysC cl)).2.length (numO [] (a.keysC cl)).1
def Cl0 (a:Aut):List Int:=(List.range a.acc.length).map fun i=>if a.liveL[i]? =some true then (if a.acc[i]? =some true then 1 else 0) else -1
theorem Cl0_len {a:Aut}:(Cl0 a).length=a.acc.length:=by simp [Cl0]
theorem Cl0_get {a:Aut} {i:Nat} (h:i<a.acc.length):(Cl0 a)[i]? =some (if a.liveL[i]? =some true then (if a.acc[i]? =some true then 1 else 0) else -1):=by
 unfold Cl0
 rw [List.getElem?_map,List.getElem?_range h];rfl
end Go.Fsa
namespace Go.Fsa
theorem prefix_getS {α:Type} {A B:List α} (h:A <+: B) {i:Nat} {x:α} (hx:A[i]? =some x):B[i]? =some x:=by
 obtain ⟨t,rfl⟩:=h
 have:i<A.length:=by
  rcases Nat.lt_or_ge i A.length with g | g
  ·exact g
  ·rw [List.getElem?_eq_none g] at hx;cases hx
 rw [List.getElem?_append_left this];exact hx
inductive All2 {α β:Type} (R:α→β→Prop):List α→List β→Prop
 | nil:All2 R [] []
 | cons {a:α} {b:β} {l:List α} {m:List β}:R a b→All2 R l m→All2 R (a::l) (b::m)
theorem All2.length {α β:Type} {R:α→β→Prop}:∀ {l:List α} {m:List β},All2 R l m→l.length=m.length
 | _,_,.nil=>rfl
 | _,_,.cons _ h=>by simp [h.length]
theorem All2.append {α β:Type} {R:α→β→Prop} {l':List α} {m':List β} (h':All2 R l' m'):∀ {l:List α} {m:List β},All2 R l m→All2 R (l++l') (m++m')
 | _,_,.nil=>h'
 | _,_,.cons a h=>.cons a (All2.append h' h)
theorem All2.get {α β:Type} {R:α→β→Prop}:∀ {l:List α} {m:List β} {i:Nat} {a:α},All2 R l m→l[i]? =some a→∃ b,m[i]? =some b∧R a b
 | _,_,i,a,.nil,h=>by simp at h
 | _,_,0,a,.cons r h,e=>by
  simp only [List.getElem?_cons_zero,Option.some.injEq] at e
  subst e
  exact ⟨_,rfl,r⟩
 | _,_,i+1,a,.cons r h,e=>by
  simp only [List.getElem?_cons_succ] at e
  obtain ⟨b,h1,h2⟩:=h.get e
  exact ⟨b,by simpa using h1,h2⟩
theorem All2.of {α β:Type} {R:α→β→Prop}:∀ {l:List α} {m:List β},l.length=m.length→(∀ (i:Nat) a b,l[i]? =some a→m[i]? =some b→R a b)→All2 R l m
 | [],[],_,_=>.nil
 | [],_::_,h,_=>by simp at h
 | _::_,[],h,_=>by simp at h
 | a::l,b::m,h,k=>.cons (k 0 a b rfl rfl) (All2.of (by simpa using h) fun i x y h1 h2=>k (i+1) x y (by simpa using h1) (by simpa using h2))
theorem All2.map_eq {α β γ:Type} {R:α→β→Prop} {f:α→γ} {g:β→γ} (hf:∀ a b,R a b→f a=g b):∀ {l:List α} {m:List β},All2 R l m→l.map f=m.map g
 | _,_,.nil=>rfl
 | _,_,.cons a h=>by rw [List.map_cons,List.map_cons,hf _ _ a,h.map_eq hf]
section
variable {S K:Type} [DecidableEq K]
def addS (key:S→K):List S→List (Option S)→List S
 | qs,[]=>qs
 | qs,none::l=>addS key qs l
 | qs,some s::l=>addS key (if key s∈qs.map key then qs else qs++[s]) l
def rowS (key:S→K) (qs:List S) (l:List (Option S)):List Int:=(numO (qs.map key) (l.map (Option.map key))).1
def exR (key:S→K) (succ:S→List (Option S)) (most:Nat):Nat→Nat→List S→Option (List S×List (List Int))
 | 0,_,_=>none
 | F+1,i,qs=>match qs[i]? with
  | none=>some (qs,[])
  | some s=>if most<(addS key qs (succ s)).length then none else
   (exR key succ most F (i+1) (addS key qs (succ s))).map fun r=>(r.1,rowS key qs (succ s)::r.2)
variable {key:S→K} {succ:S→List (Option S)} {most:Nat}
theorem add1_map {qs:List S} {s:S}:(if key s∈qs.map key then qs else qs++[s]).map key=addK (qs.map key) (key s):=by
 unfold addK
 split<;>simp
theorem addS_map:∀ {l:List (Option S)} {qs:List S},(addS key qs l).map key=(numO (qs.map key) (l.map (Option.map key))).2
 | [],qs=>rfl
 | none::l,qs=>addS_map (l:=l)
 | some s::l,qs=>by
  show (addS key _ l).map key=_
  rw [addS_map (l:=l),add1_map];rfl
theorem addS_prefix:∀ {l:List (Option S)} {qs:List S},qs <+: addS key qs l
 | [],qs=>List.prefix_refl _
 | none::l,qs=>addS_prefix (l:=l)
 | some s::l,qs=>by
  refine List.IsPrefix.trans ?_ (addS_prefix (l:=l))
  split
  ·exact List.prefix_refl _
  ·exact List.prefix_append _ _
theorem addS_dom {dom:S→Prop}:∀ {l:List (Option S)} {qs:List S},(∀ s∈qs,dom s)→(∀ s,some s∈l→dom s)→∀ s∈addS key qs l,dom s
 | [],qs,h,_=>h
 | none::l,qs,h,k=>addS_dom (l:=l) h fun s hs=>k s (List.mem_cons_of_mem _ hs)
 | some t::l,qs,h,k=>by
  refine addS_dom (l:=l) ?_ fun s hs=>k s (List.mem_cons_of_mem _ hs)
  split
  ·exact h
  ·intro s hs
   rcases List.mem_append.1 hs with hs | hs
   ·exact h s hs
   ·rw [List.mem_singleton] at hs;rw [hs];exact k t (List.mem_cons_self ..)
theorem addS_nodup {l:List (Option S)} {qs:List S} (h:(qs.map key).Nodup):((addS key qs l).map key).Nodup:=by
 rw [addS_map];exact numO_nodup h
theorem rowS_len {l:List (Option S)} {qs:List S}:(rowS key qs l).length=l.length:=by
 unfold rowS;rw [numO_len,List.length_map]
theorem exR_some {dom:S→Prop} {N:Nat} (hd:∀ s,dom s→∀ t,some t∈succ s→dom t) (hb:∀ qs:List S,(∀ s∈qs,dom s)→(qs.map key).Nodup→qs.length≤N) (hN:N≤most) :
  ∀ {F i:Nat} {qs:List S},(∀ s∈qs,dom s)→(qs.map key).Nodup→N<F+i→i≤qs.length→∃ r,exR key succ most F i qs=some r
 | 0,i,qs,h1,h2,h3,h4=>by have:=hb qs h1 h2;omega
 | F+1,i,qs,h1,h2,h3,h4=>by
  simp only [exR]
  cases hq:qs[i]? with
  | none=>exact ⟨_,rfl⟩
  | some s=>
   have hs:s∈qs:=List.mem_of_getElem? hq
   have g1:=addS_dom (key:=key) h1 (hd s (h1 s hs))
   have g2:=addS_nodup (l:=succ s) h2
   have hl:=hb _ g1 g2
   have hi:i<qs.length:=by
    rcases Nat.lt_or_ge i qs.length with g | g
    ·exact g
    ·rw [List.getElem?_eq_none g] at hq;cases hq
   have hp:=(addS_prefix (key:=key) (l:=succ s) (qs:=qs)).length_le
   obtain ⟨r,hr⟩:=exR_some hd hb hN (F:=F) (i:=i+1) g1 g2 (by omega) (by omega)
   simp only
   rw [if_neg (by omega),hr]
   exact ⟨_,rfl⟩
theorem exR_spec:∀ {F i:Nat} {qs:List S} {r:List S×List (List Int)},exR key succ most F i qs=some r→qs <+: r.1∧(i≤qs.length→i+r.2.length=r.1.length) ∧
   ∀ (j:Nat) s,r.1[i+j]? =some s→i≤qs.length→∃ row,r.2[j]? =some row∧row.length=(succ s).length∧(∀ k:Nat,(succ s)[k]? =some none→row[k]? =some (-1))∧∀ (k:Nat) t,(succ s)[k]? =some (some t)→∃ (n:Nat) (t':S),row[k]? =some (n:Int)∧r.1[n]? =some t'∧key t'=key t
 | 0,i,qs,r,h=>by simp [exR] at h
 | F+1,i,qs,r,h=>by
  simp only [exR] at h
  cases hq:qs[i]? with
  | none=>
   rw [hq] at h
   simp only [Option.some.injEq] at h
   subst h
   have hi:qs.length≤i:=by
    rcases Nat.lt_or_ge i qs.length with g | g
    ·rw [List.getElem?_eq_getElem g] at hq;cases hq
    ·exact g
   refine ⟨List.prefix_refl _,fun h=>by simp;omega,fun j s hs hle=>?_⟩
   rw [List.getElem?_eq_none (by simp only;omega)] at hs;cases hs
  | some s=>
   rw [hq] at h
   simp only at h
   split at h
   ·cases h
   obtain ⟨r',hr',rfl⟩:=Option.map_eq_some_iff.1 h
   obtain ⟨g1,g2,g3⟩:=exR_spec hr'
   have hi:i<qs.length:=by
    rcases Nat.lt_or_ge i qs.length with g | g
    ·exact g
    ·rw [List.getElem?_eq_none g] at hq;cases hq
   have hp:=addS_prefix (key:=key) (l:=succ s) (qs:=qs)
   have hpl:=hp.length_le
   refine ⟨hp.trans g1,fun _=>by have:=g2 (by omega);simp only [List.length_cons];omega,fun j s' hs' _=>?_⟩
   cases j with
   | zero=>
    have e:=prefix_getS (hp.trans g1) hq
    simp only [Nat.add_zero] at hs'
    rw [e,Option.some.injEq] at hs'
    subst hs'
    refine ⟨_,rfl,rowS_len,fun k hk=>?_,fun k t hk=>?_⟩
    ·exact numO_none (by rw [List.getElem?_map,hk];rfl)
    ·obtain ⟨n,h1,h2⟩:=numO_get (ks:=qs.map key) (show ((succ s).map (Option.map key))[k]? =some (some (key t)) by rw [List.getElem?_map,hk];rfl)
     rw [← addS_map,List.getElem?_map] at h2
     obtain ⟨t',h3,h4⟩:=Option.map_eq_some_iff.1 h2
     exact ⟨n,t',h1,prefix_getS g1 h3,h4⟩
   | succ j=>
    obtain ⟨row,h1,h2⟩:=g3 j s' (by rw [← hs',show i+1+j=i+(j+1) by omega]) (by omega)
    exact ⟨row,by simpa using h1,h2⟩
theorem exR_dom {dom:S→Prop} (hd:∀ s,dom s→∀ t,some t∈succ s→dom t):∀ {F i:Nat} {qs:List S} {r:List S×List (List Int)},(∀ s∈qs,dom s)→(qs.map key).Nodup→exR key succ most F i qs=some r→(∀ s∈r.1,dom s)∧(r.1.map key).Nodup
 | 0,i,qs,r,_,_,h=>by simp [exR] at h
 | F+1,i,qs,r,h1,h2,h=>by
  simp only [exR] at h
  cases hq:qs[i]? with
  | none=>
   rw [hq] at h
   simp only [Option.some.injEq] at h
   subst h
   exact ⟨h1,h2⟩
  | some s=>
   rw [hq] at h
   simp only at h
   split at h
   ·cases h
   obtain ⟨r',hr',rfl⟩:=Option.map_eq_some_iff.1 h
   have:=exR_dom hd (F:=F) (i:=i+1) (addS_dom (key:=key) h1 (hd s (h1 s (List.mem_of_getElem? hq)))) (addS_nodup h2) hr'
   exact this
end
def OR2 {α β:Type} (R:α→β→Prop):Option α→Option β→Prop
 | none,none=>True
 | some a,some b=>R a b
 | _,_=>False
section
variable {K:Type} [DecidableEq K]
theorem numK_cons {x k:K} {ks:List K}:numK (x::ks) k=if k=x then 0 else numK ks k+1:=by
 unfold numK
 rw [List.findIdx?_cons]
 by_cases h:k=x
 ·simp [h]
 ·simp only [h,decide_false,if_false]
  cases List.findIdx? (fun y=>decide (k=y)) ks<;>simp
end
section
variable {S S' K K':Type} [DecidableEq K] [DecidableEq K'] {key:S→K} {key':S'→K'} {R:S→S'→Prop}
theorem numK_rel (hR:∀ s s' t t',R s s'→R t t'→(key s=key t↔key' s'=key' t')) {s:S} {s':S'} (h:R s s'):∀ {qs:List S} {qs':List S'},All2 R qs qs'→numK (qs.map key) (key s)=numK (qs'.map key') (key' s')∧(key s∈qs.map key↔key' s'∈qs'.map key')
 | _,_,.nil=>⟨rfl,by simp⟩
 | _,_,.cons (a:=x) (b:=x') r t=>by
  obtain ⟨h1,h2⟩:=numK_rel hR h t
  have e:=hR s s' x x' h r
  simp only [List.map_cons,numK_cons,List.mem_cons,h1,e,h2,and_self]
theorem numO_rel (hR:∀ s s' t t',R s s'→R t t'→(key s=key t↔key' s'=key' t')):∀ {l:List (Option S)} {l':List (Option S')} {qs:List S} {qs':List S'},All2 (OR2 R) l l'→All2 R qs qs' →
   rowS key qs l=rowS key' qs' l'∧All2 R (addS key qs l) (addS key' qs' l')
 | _,_,qs,qs',.nil,hq=>⟨rfl,hq⟩
 | _,_,qs,qs',.cons (a:=none) (b:=none) _ t,hq=>by
  obtain ⟨h1,h2⟩:=numO_rel hR t hq
  exact ⟨by show _::_=_::_;exact congrArg _ h1,h2⟩
 | _,_,qs,qs',.cons (a:=some s) (b:=some s') r t,hq=>by
  obtain ⟨g1,g2⟩:=numK_rel hR r hq
  have hq':All2 R (if key s∈qs.map key then qs else qs++[s]) (if key' s'∈qs'.map key' then qs' else qs'++[s']):=by
   by_cases h:key s∈qs.map key
   ·rw [if_pos h,if_pos (g2.1 h)];exact hq
   ·rw [if_neg h,if_neg (fun h'=>h (g2.2 h'))]
    exact All2.append (R:=R) (.cons r .nil) hq
  obtain ⟨h1,h2⟩:=numO_rel hR t hq'
  refine ⟨?_,h2⟩
  unfold rowS at h1 ⊢
  rw [add1_map,add1_map] at h1
  show _::_=_::_
  rw [g1]
  exact congrArg _ h1
 | _,_,qs,qs',.cons (a:=none) (b:=some _) r t,hq=>r.elim
 | _,_,qs,qs',.cons (a:=some _) (b:=none) r t,hq=>r.elim
theorem exR_sim {succ:S→List (Option S)} {succ':S'→List (Option S')} {most:Nat} (hR:∀ s s' t t',R s s'→R t t'→(key s=key t↔key' s'=key' t')) (hS:∀ s s',R s s'→All2 (OR2 R) (succ s) (succ' s')) :
  ∀ {F i:Nat} {qs:List S} {qs':List S'} {r:List S×List (List Int)},All2 R qs qs'→exR key succ most F i qs=some r→∃ q',exR key' succ' most F i qs'=some (q',r.2)∧All2 R r.1 q'
 | 0,i,qs,qs',r,hq,h=>by simp [exR] at h
 | F+1,i,qs,qs',r,hq,h=>by
  simp only [exR] at h ⊢
  cases hqi:qs[i]? with
  | none=>
   rw [hqi] at h
   simp only [Option.some.injEq] at h
   subst h
   have:qs'[i]? =none:=by
    rw [List.getElem?_eq_none_iff] at hqi ⊢
    rw [← hq.length];exact hqi
   rw [this]
   exact ⟨_,rfl,hq⟩
  | some s=>
   rw [hqi] at h
   simp only at h
   split at h
   ·cases h
   rename_i hm
   obtain ⟨r',hr',rfl⟩:=Option.map_eq_some_iff.1 h
   obtain ⟨s',hs',hss⟩:=hq.get hqi
   obtain ⟨g1,g2⟩:=numO_rel hR (hS s s' hss) hq
   obtain ⟨q',h1,h2⟩:=exR_sim hR hS g2 hr'
   rw [hs']
   simp only
   rw [if_neg (by rw [← g2.length];exact hm),h1]
   exact ⟨q',by rw [Option.map_some,g1],h2⟩
end
end Go.Fsa
namespace Go.Fsa
section
variable {K:Type} [DecidableEq K]
theorem find_in {ks:List K} {k:K} (h:k∈ks):(ks.findIdx? fun y=>decide (k=y))=some (numK ks k):=by
 unfold numK
 cases hf:ks.findIdx? fun y=>decide (k=y) with
 | none=>
  rw [List.findIdx?_eq_none_iff] at hf
  have:=hf k h
  simp at this
 | some i=>rfl
theorem find_out {ks:List K} {k:K} (h:k∉ks):(ks.findIdx? fun y=>decide (k=y))=none:=by
 rw [List.findIdx?_eq_none_iff]
 intro x hx
 simp only [decide_eq_false_iff_not]
 exact fun e=>h (e▸hx)
end
end Go.Fsa
namespace Go.Fsa
structure Aut.fine (a:Aut):Prop where
 len:a.nxt.length=a.acc.length
 rows:∀ r∈a.nxt,rowOK a.sy a.acc.length r
theorem Aut.valid.fine {a:Aut} (h:a.valid):a.fine:=⟨h.len,h.rows⟩
def Aut.accW (a:Aut):Int→List Nat→Bool
 | s,[]=>a.accB s
 | s,c::w=>a.accW (a.go s c) w
theorem Aut.accW_neg {a:Aut}:∀ {w:List Nat} {s:Int},s<0→a.accW s w=false
 | [],s,h=>by simp [Aut.accW,Aut.accB,show ¬0≤s by omega]
 | c::w,s,h=>by
  simp only [Aut.accW]
  rw [Aut.go_neg h];exact Aut.accW_neg (by omega)
theorem lt_of_get {α:Type} {l:List α} {i:Nat} {x:α} (h:l[i]? =some x):i<l.length:=by
 rcases Nat.lt_or_ge i l.length with g | g
 ·exact g
 ·rw [List.getElem?_eq_none g] at h;cases h
theorem Aut.go_fine {a:Aut} (hv:a.fine) {x:Int} {c:Nat}:-1≤a.go x c∧a.go x c<(a.acc.length:Nat):=by
 unfold Aut.go
 split
 ·exact ⟨by omega,by omega⟩
 ·cases h1:a.nxt[x.toNat]? with
  | none=>exact ⟨by simp,by simp;omega⟩
  | some r=>
   cases h2:r[c]? with
   | none=>simp only [Option.bind_some,h2];exact ⟨by simp,by simp;omega⟩
   | some t=>
    simp only [Option.bind_some,h2,Option.getD_some]
    have:=(hv.rows r (List.mem_of_getElem? h1)).2 t (List.mem_of_getElem? h2)
    exact ⟨by omega,by omega⟩
theorem Aut.go_big {a:Aut} (hv:a.fine) {i:Nat} {c:Nat} (h:a.sy≤c):a.go i c=-1:=by
 unfold Aut.go
 rw [if_neg (by omega),Int.toNat_natCast]
 cases h1:a.nxt[i]? with
 | none=>rfl
 | some r=>
  have:=(hv.rows r (List.mem_of_getElem? h1)).1
  simp only [Option.bind_some]
  rw [List.getElem?_eq_none (by omega)];rfl
theorem Aut.go_row {a:Aut} {i:Nat} {r:List Int} (h:a.nxt[i]? =some r) {c:Nat} {t:Int} (ht:r[c]? =some t):a.go i c=t:=by
 unfold Aut.go
 rw [if_neg (by omega),Int.toNat_natCast,h]
 simp [ht]
theorem Aut.live_word {a:Aut} (hv:a.fine) {i:Nat} (h:Live a.acc a.nxt i):∃ w,a.accW i w=true:=by
 induction h with
 | acc h=>exact ⟨[],by simp [Aut.accW,Aut.accB,h]⟩
 | @step s t r h1 h2 _ ih=>
  obtain ⟨w,hw⟩:=ih
  obtain ⟨c,hc,he⟩:=List.getElem_of_mem h2
  refine ⟨c::w,?_⟩
  simp only [Aut.accW]
  rw [Aut.go_row h1 (show r[c]? =some (t:Int) by rw [List.getElem?_eq_getElem hc,he])]
  exact hw
theorem Aut.word_live {a:Aut} (hv:a.fine):∀ {w:List Nat} {i:Nat},a.accW i w=true→Live a.acc a.nxt i
 | [],i,h=>by
  simp only [Aut.accW,Aut.accB,Bool.and_eq_true,Int.toNat_natCast] at h
  cases hi:a.acc[i]? with
  | none=>rw [hi] at h;simp at h
  | some b=>
   rw [hi] at h
   refine .acc (hi.trans ?_)
   simpa using h.2
 | c::w,i,h=>by
  simp only [Aut.accW] at h
  by_cases hn:a.go i c<0
  ·rw [Aut.accW_neg hn] at h;cases h
  ·obtain ⟨t,ht⟩:∃ t:Nat,a.go i c=t:=⟨(a.go i c).toNat,by omega⟩
   rw [ht] at h
   have hl:=Aut.word_live hv h
   unfold Aut.go at ht
   rw [if_neg (by omega),Int.toNat_natCast] at ht
   cases h1:a.nxt[i]? with
   | none=>rw [h1] at ht;simp at ht<;>omega
   | some r=>
    rw [h1] at ht
    simp only [Option.bind_some] at ht
    cases h2:r[c]? with
    | none=>rw [h2] at ht;simp at ht<;>omega
    | some x=>
     rw [h2] at ht
     simp only [Option.getD_some] at ht
     subst ht
     exact .step h1 (List.mem_of_getElem? h2) hl
theorem Aut.live_iff {a:Aut} (hv:a.fine) {i:Nat}:Live a.acc a.nxt i↔∃ w,a.accW i w=true:=⟨Aut.live_word hv,fun ⟨_,h⟩=>Aut.word_live hv h⟩
def Aut.nx (a:Aut) (c:Nat→Option Nat) (i k:Nat):Option Nat:=if a.go i k<0 then none else c (a.go i k).toNat
abbrev Aut.lv (a:Aut) (i:Nat):Prop:=Live a.acc a.nxt i
structure CInv (a:Aut) (c:Nat→Option Nat):Prop where
 dead:∀ i,i<a.acc.length→(c i=none↔¬a.lv i)
 same:∀ i j,i<a.acc.length→j<a.acc.length→a.lv i→a.lv j→(∀ w,a.accW i w=a.accW j w)→c i=c j
 acc:∀ i j,i<a.acc.length→j<a.acc.length→a.lv i→a.lv j→c i=c j→a.accB i=a.accB j
structure CRound (a:Aut) (c c':Nat→Option Nat):Prop where
 dead:∀ i,i<a.acc.length→(c' i=none↔¬a.lv i)
 iff:∀ i j,i<a.acc.length→j<a.acc.length→a.lv i→a.lv j→(c' i=c' j↔c i=c j∧∀ k:Nat,(k:Int)<a.sy→a.nx c i k=a.nx c j k)
theorem CInv.nx_none {a:Aut} (hv:a.fine) {c:Nat→Option Nat} (h:CInv a c) {i k:Nat}:a.nx c i k=none↔∀ w,a.accW (a.go i k) w=false:=by
 unfold Aut.nx
 split
 ·rename_i hn
  exact ⟨fun _ w=>Aut.accW_neg hn,fun _=>rfl⟩
 ·rename_i hn
  have hg:=Aut.go_fine hv (x:=i) (c:=k)
  rw [h.dead _ (by omega),show a.lv (a.go i k).toNat↔_ from Aut.live_iff hv,show ((a.go i k).toNat:Int)=a.go i k by omega]
  simp
theorem CInv.nx_same {a:Aut} (hv:a.fine) {c:Nat→Option Nat} (h:CInv a c) {i j k:Nat} (hw:∀ w,a.accW (a.go i k) w=a.accW (a.go j k) w):a.nx c i k=a.nx c j k:=by
 cases hi:a.nx c i k with
 | none=>
  rw [(h.nx_none hv).1 |> fun f=>(h.nx_none hv (i:=j) (k:=k)).2 fun w=>by rw [← hw];exact f hi w]
 | some x=>
  cases hj:a.nx c j k with
  | none=>
   rw [(h.nx_none hv).2 fun w=>by rw [hw];exact (h.nx_none hv).1 hj w] at hi;cases hi
  | some y=>
   have gi:=Aut.go_fine hv (x:=i) (c:=k)
   have gj:=Aut.go_fine hv (x:=j) (c:=k)
   unfold Aut.nx at hi hj
   split at hi
   ·cases hi
   split at hj
   ·cases hj
   rename_i n1 n2
   have l1:a.lv (a.go i k).toNat:=Classical.byContradiction fun hn=>by rw [(h.dead _ (by omega)).2 hn] at hi;cases hi
   have l2:a.lv (a.go j k).toNat:=Classical.byContradiction fun hn=>by rw [(h.dead _ (by omega)).2 hn] at hj;cases hj
   rw [← hi,← hj]
   exact h.same _ _ (by omega) (by omega) l1 l2 fun w=>by
    rw [show ((a.go i k).toNat:Int)=a.go i k by omega,show ((a.go j k).toNat:Int)=a.go j k by omega];exact hw w
theorem CInv.round {a:Aut} (hv:a.fine) {c c':Nat→Option Nat} (h:CInv a c) (r:CRound a c c'):CInv a c' where
 dead:=r.dead
 same i j hi hj li lj hw:=(r.iff i j hi hj li lj).2 ⟨h.same i j hi hj li lj hw,fun k _=>h.nx_same hv fun w=>hw (k::w)⟩
 acc i j hi hj li lj e:=h.acc i j hi hj li lj ((r.iff i j hi hj li lj).1 e).1
theorem CInv.stable {a:Aut} (hv:a.fine) {c c':Nat→Option Nat} (h:CInv a c) (r:CRound a c c') (st:∀ i j,i<a.acc.length→j<a.acc.length→a.lv i→a.lv j→c i=c j→c' i=c' j) :
  ∀ (w:List Nat) (i j:Nat),i<a.acc.length→j<a.acc.length→a.lv i→a.lv j→c i=c j→a.accW i w=a.accW j w
 | [],i,j,hi,hj,li,lj,e=>h.acc i j hi hj li lj e
 | k::w,i,j,hi,hj,li,lj,e=>by
  simp only [Aut.accW]
  by_cases hk:(k:Int)<a.sy
  ·have hn:=((r.iff i j hi hj li lj).1 (st i j hi hj li lj e)).2 k hk
   cases h1:a.nx c i k with
   | none=>
    rw [h1] at hn
    rw [(h.nx_none hv).1 h1 w,(h.nx_none hv).1 hn.symm w]
   | some x=>
    rw [h1] at hn
    have gi:=Aut.go_fine hv (x:=i) (c:=k)
    have gj:=Aut.go_fine hv (x:=j) (c:=k)
    have hn':=hn.symm
    unfold Aut.nx at h1 hn'
    split at h1
    ·cases h1
    split at hn'
    ·cases hn'
    rename_i n1 n2
    have l1:a.lv (a.go i k).toNat:=Classical.byContradiction fun hn=>by rw [(h.dead _ (by omega)).2 hn] at h1;cases h1
    have l2:a.lv (a.go j k).toNat:=Classical.byContradiction fun hn=>by rw [(h.dead _ (by omega)).2 hn] at hn';cases hn'
    have:=CInv.stable hv h r st w _ _ (by omega) (by omega) l1 l2 (h1.trans hn'.symm)
    rw [show ((a.go i k).toNat:Int)=a.go i k by omega,show ((a.go j k).toNat:Int)=a.go j k by omega] at this
    exact this
  ·rw [Aut.go_big hv (by omega),Aut.go_big hv (by omega)]
structure CGood (a:Aut) (c:Nat→Option Nat):Prop where
 dead:∀ i,i<a.acc.length→(c i=none↔¬a.lv i)
 iff:∀ i j,i<a.acc.length→j<a.acc.length→a.lv i→a.lv j→(c i=c j↔∀ w,a.accW i w=a.accW j w)
theorem CInv.good {a:Aut} (hv:a.fine) {c c':Nat→Option Nat} (h:CInv a c) (r:CRound a c c') (st:∀ i j,i<a.acc.length→j<a.acc.length→a.lv i→a.lv j→c i=c j→c' i=c' j):CGood a c' where
 dead:=r.dead
 iff i j hi hj li lj:=⟨fun e w=>h.stable hv r st w i j hi hj li lj ((r.iff i j hi hj li lj).1 e).1,(h.round hv r).same i j hi hj li lj⟩
/-! ### the reference's rounds -/
def cO (cl:List Int) (i:Nat):Option Nat:=(cl[i]?).bind fun x=>if x<0 then none else some x.toNat
theorem cO_val {cl:List Int} {i:Nat} {x:Int} (h:cl[i]? =some x):cO cl i=if x<0 then none else some x.toNat:=by simp [cO,h]
theorem clAt_val {a:Aut} (hv:a.fine) {cl:List Int} (hl:cl.length=a.acc.length) (hm:∀ x∈cl,-1≤x) {i k:Nat}:-1≤clAt cl (a.go i k)∧a.nx (cO cl) i k=if clAt cl (a.go i k)<0 then none else some (clAt cl (a.go i k)).toNat:=by
 have hg:=Aut.go_fine hv (x:=i) (c:=k)
 unfold Aut.nx clAt
 by_cases h:a.go i k<0
 ·rw [if_pos h,if_neg (show ¬0≤a.go i k by omega)]
  exact ⟨by omega,by simp⟩
 ·rw [if_neg h,if_pos (show 0≤a.go i k by omega)]
  obtain ⟨x,hx⟩:∃ x,cl[(a.go i k).toNat]? =some x:=⟨_,List.getElem?_eq_getElem (by omega)⟩
  rw [cO_val hx,hx]
  exact ⟨hm x (List.mem_of_getElem? hx),rfl⟩
theorem opt_int {x y:Int} (hx:-1≤x) (hy:-1≤y):((if x<0 then none else some x.toNat)=(if y<0 then none else some y.toNat))↔x=y:=by
 split<;>split<;>simp<;>omega
theorem row_go {a:Aut} (hv:a.fine) {i:Nat} (hi:i<a.acc.length):∃ r,a.nxt[i]? =some r∧(r.length:Int)=a.sy∧∀ k:Nat,(k:Int)<a.sy→r[k]? =some (a.go i k):=by
 obtain ⟨r,hr⟩:∃ r,a.nxt[i]? =some r:=⟨_,List.getElem?_eq_getElem (by rw [hv.len];exact hi)⟩
 have hl:=(hv.rows r (List.mem_of_getElem? hr)).1
 refine ⟨r,hr,hl,fun k hk=>?_⟩
 obtain ⟨t,ht⟩:∃ t,r[k]? =some t:=⟨_,List.getElem?_eq_getElem (by omega)⟩
 rw [ht,Aut.go_row hr ht]
theorem keyC_iff {a:Aut} (hv:a.fine) {cl:List Int} (hl:cl.length=a.acc.length) (hm:∀ x∈cl,-1≤x) {i j:Nat} (hi:i<a.acc.length) (hj:j<a.acc.length) :
  a.keyC cl i=a.keyC cl j↔cO cl i=cO cl j∧∀ k:Nat,(k:Int)<a.sy→a.nx (cO cl) i k=a.nx (cO cl) j k:=by
 obtain ⟨r,r1,r2,r3⟩:=row_go hv hi
 obtain ⟨q,q1,q2,q3⟩:=row_go hv hj
 obtain ⟨x,hx⟩:∃ x,cl[i]? =some x:=⟨_,List.getElem?_eq_getElem (by omega)⟩
 obtain ⟨y,hy⟩:∃ y,cl[j]? =some y:=⟨_,List.getElem?_eq_getElem (by omega)⟩
 unfold Aut.keyC
 rw [hx,hy,r1,q1,cO_val hx,cO_val hy,opt_int (hm x (List.mem_of_getElem? hx)) (hm y (List.mem_of_getElem? hy))]
 simp only [Option.getD_some,List.cons.injEq]
 refine and_congr_right' ⟨fun h k hk=>?_,fun h=>List.ext_getElem? fun k=>?_⟩
 ·have e:=congrArg (fun l:List Int=>l[k]?) h
  simp only [List.getElem?_map,r3 k hk,q3 k hk,Option.map_some,Option.some.injEq] at e
  rw [(clAt_val hv hl hm).2,(clAt_val hv hl hm).2,e]
 ·rw [List.getElem?_map,List.getElem?_map]
  by_cases hk:(k:Int)<a.sy
  ·rw [r3 k hk,q3 k hk]
   simp only [Option.map_some]
   have e:=h k hk
   rw [(clAt_val hv hl hm).2,(clAt_val hv hl hm).2,opt_int (clAt_val hv hl hm).1 (clAt_val hv hl hm).1] at e
   rw [e]
  ·rw [List.getElem?_eq_none (by omega),List.getElem?_eq_none (by omega)]
theorem keysC_get {a:Aut} {cl:List Int} {i:Nat} (hi:i<a.acc.length):(a.keysC cl)[i]? =some (if (cl[i]?).getD 0<0 then none else some (a.keyC cl i)):=by
 unfold Aut.keysC
 rw [List.getElem?_map,List.getElem?_range hi];rfl
theorem keysC_len {a:Aut} {cl:List Int}:(a.keysC cl).length=a.acc.length:=by simp [Aut.keysC]
structure ROk (a:Aut) (cl:List Int):Prop where
 len:cl.length=a.acc.length
 lo:∀ x∈cl,-1≤x
 inv:CInv a (cO cl)
theorem numO_lo {K:Type} [DecidableEq K]:∀ {l:List (Option K)} {ks:List K},∀ x∈(numO ks l).1,-1≤x
 | [],ks,x,h=>by simp [numO] at h
 | none::l,ks,x,h=>by
  simp only [numO,List.mem_cons] at h
  rcases h with rfl | h
  ·omega
  ·exact numO_lo x h
 | some k::l,ks,x,h=>by
  simp only [numO,List.mem_cons] at h
  rcases h with rfl | h
  ·omega
  ·exact numO_lo x h
theorem ROk.round {a:Aut} (hv:a.fine) {cl:List Int} (h:ROk a cl):CRound a (cO cl) (cO (numO [] (a.keysC cl)).1) ∧
  ∀ i j,i<a.acc.length→j<a.acc.length→a.lv i→a.lv j→(cO (numO [] (a.keysC cl)).1 i=cO (numO [] (a.keysC cl)).1 j↔a.keyC cl i=a.keyC cl j):=by
 have hlive:∀ i,i<a.acc.length→a.lv i→∃ n:Nat,(numO [] (a.keysC cl)).1[i]? =some (n:Int)∧(a.keysC cl)[i]? =some (some (a.keyC cl i)):=by
  intro i hi li
  obtain ⟨x,hx⟩:∃ x,cl[i]? =some x:=⟨_,List.getElem?_eq_getElem (by rw [h.len];exact hi)⟩
  have hd:¬cO cl i=none:=fun e=>(h.inv.dead i hi).1 e li
  rw [cO_val hx] at hd
  have hk:=keysC_get (a:=a) (cl:=cl) hi
  rw [hx] at hk
  have hx0:¬x<0:=fun e=>hd (if_pos e)
  rw [Option.getD_some,if_neg hx0] at hk
  obtain ⟨n,h1,_⟩:=numO_get (ks:=[]) hk
  exact ⟨n,h1,hk⟩
 have hiff:∀ i j,i<a.acc.length→j<a.acc.length→a.lv i→a.lv j→(cO (numO [] (a.keysC cl)).1 i=cO (numO [] (a.keysC cl)).1 j↔a.keyC cl i=a.keyC cl j):=by
  intro i j hi hj li lj
  obtain ⟨n,n1,n2⟩:=hlive i hi li
  obtain ⟨m,m1,m2⟩:=hlive j hj lj
  rw [cO_val n1,cO_val m1,opt_int (by omega) (by omega)]
  exact numO_iff n2 m2 n1 m1
 refine ⟨⟨fun i hi=>?_,fun i j hi hj li lj=>?_⟩,hiff⟩
 ·by_cases li:a.lv i
  ·obtain ⟨n,n1,_⟩:=hlive i hi li
   rw [cO_val n1]
   simp [li,show ¬(n:Int)<0 by omega]
  ·have hd:=(h.inv.dead i hi).2 li
   obtain ⟨x,hx⟩:∃ x,cl[i]? =some x:=⟨_,List.getElem?_eq_getElem (by rw [h.len];exact hi)⟩
   rw [cO_val hx] at hd
   have hx0:x<0:=by
    by_cases e:x<0
    ·exact e
    ·rw [if_neg e] at hd;cases hd
   have hk:=keysC_get (a:=a) (cl:=cl) hi
   rw [hx,Option.getD_some,if_pos hx0] at hk
   rw [cO_val (numO_none hk)]
   simp [li]
 ·rw [hiff i j hi hj li lj,keyC_iff hv h.len h.lo hi hj]
theorem ROk.next {a:Aut} (hv:a.fine) {cl:List Int} (h:ROk a cl):ROk a (numO [] (a.keysC cl)).1:=
 ⟨by rw [numO_len,keysC_len],numO_lo,h.inv.round hv (h.round hv).1⟩
open Classical in
def Aut.lives (a:Aut):List Nat:=(List.range a.acc.length).filter fun i=>decide (a.lv i)
theorem Aut.mem_lives {a:Aut} {i:Nat}:i∈a.lives↔i<a.acc.length∧a.lv i:=by simp [Aut.lives]
theorem Aut.lives_len {a:Aut}:a.lives.length≤a.acc.length:=by
 have:=List.length_filter_le (fun i=>@decide (a.lv i) (Classical.propDecidable _)) (List.range a.acc.length)
 rw [List.length_range] at this;exact this
theorem ROk.count {a:Aut} {cl:List Int} (h:ROk a cl):(numO [] (a.keysC cl)).2.length=dc (a.lives.map (a.keyC cl)):=by
 refine dc_of (numO_nodup List.nodup_nil) fun x=>?_
 rw [mem_numO]
 simp only [List.not_mem_nil,false_or,List.mem_map]
 have key:∀ i,i<a.acc.length→((cl[i]?).getD 0<0↔¬a.lv i):=by
  intro i hi
  obtain ⟨y,hy⟩:∃ x,cl[i]? =some x:=⟨_,List.getElem?_eq_getElem (by rw [h.len];exact hi)⟩
  rw [← h.inv.dead i hi,cO_val hy,hy]
  simp
 constructor
 ·intro hm
  obtain ⟨i,hi,he⟩:=List.getElem_of_mem hm
  rw [keysC_len] at hi
  have hk:=keysC_get (a:=a) (cl:=cl) hi
  rw [List.getElem?_eq_getElem (by rw [keysC_len];exact hi),he,Option.some.injEq] at hk
  split at hk
  ·cases hk
  ·rename_i hc
   simp only [Option.some.injEq] at hk
   exact ⟨i,Aut.mem_lives.2 ⟨hi,Classical.byContradiction fun g=>hc ((key i hi).2 g)⟩,hk.symm⟩
 ·rintro ⟨i,hi,rfl⟩
  obtain ⟨h1,h2⟩:=Aut.mem_lives.1 hi
  have hk:=keysC_get (a:=a) (cl:=cl) h1
  rw [if_neg (fun g=>(key i h1).1 g h2)] at hk
  exact List.mem_of_getElem? hk
theorem dc_congr {K L:Type} [DecidableEq K] [DecidableEq L] {f:Nat→K} {g:Nat→L} {I:List Nat} (h:∀ i∈I,∀ j∈I,(f i=f j↔g i=g j)):dc (I.map f)=dc (I.map g):=
 Nat.le_antisymm (dc_mono fun i hi j hj e=>(h i hi j hj).2 e).1 (dc_mono fun i hi j hj e=>(h i hi j hj).1 e).1
theorem iterC_ok {a:Aut} (hv:a.fine):∀ {F cnt:Nat} {cl:List Int},ROk a cl→cnt≤dc (a.lives.map (cO cl))→a.acc.length<F+cnt→∃ cl',a.iterC F cnt cl=some cl'∧ROk a cl'∧CGood a (cO cl')
 | 0,cnt,cl,h,h1,h2=>by
  have:=dc_le (a.lives.map (cO cl))
  have:=a.lives_len
  simp only [List.length_map] at *
  omega
 | F+1,cnt,cl,h,h1,h2=>by
  obtain ⟨r1,r2⟩:=h.round hv
  have hc:=h.count
  have hm:=dc_mono (f:=a.keyC cl) (g:=cO cl) (I:=a.lives) fun i hi j hj e=>((keyC_iff hv h.len h.lo (Aut.mem_lives.1 hi).1 (Aut.mem_lives.1 hj).1).1 e).1
  simp only [Aut.iterC]
  by_cases he:(numO [] (a.keysC cl)).2.length=cnt
  ·rw [if_pos he]
   refine ⟨_,rfl,h.next hv,h.inv.good hv r1 fun i j hi hj li lj e=>?_⟩
   rw [r2 i j hi hj li lj]
   exact hm.2 (by omega) i (Aut.mem_lives.2 ⟨hi,li⟩) j (Aut.mem_lives.2 ⟨hj,lj⟩) e
  ·rw [if_neg he]
   have hn:dc (a.lives.map (cO (numO [] (a.keysC cl)).1))=dc (a.lives.map (a.keyC cl)):=dc_congr fun i hi j hj=>
    r2 i j (Aut.mem_lives.1 hi).1 (Aut.mem_lives.1 hj).1 (Aut.mem_lives.1 hi).2 (Aut.mem_lives.1 hj).2
   exact iterC_ok hv (h.next hv) (by omega) (by omega)
end Go.Fsa
namespace Go.Fsa
section
variable {S K:Type} [DecidableEq K] {key:S→K}
theorem addS_app:∀ {l m:List (Option S)} {qs:List S},addS key qs (l++m)=addS key (addS key qs l) m
 | [],m,qs=>rfl
 | none::l,m,qs=>addS_app (l:=l)
 | some s::l,m,qs=>addS_app (l:=l)
theorem rowS_none {l:List (Option S)} {qs:List S}:rowS key qs (l++[none])=rowS key qs l++[-1]:=by
 unfold rowS;rw [List.map_append]
 show (numO _ (_++[none])).1=_
 rw [numO_snoc_none]
theorem rowS_some {l:List (Option S)} {qs:List S} {s:S}:rowS key qs (l++[some s])=rowS key qs l++[(numK ((addS key qs l).map key) (key s):Int)]:=by
 unfold rowS;rw [List.map_append]
 show (numO _ (_++[some (key s)])).1=_
 rw [numO_snoc,addS_map]
theorem addS_none {l:List (Option S)} {qs:List S}:addS key qs (l++[none])=addS key qs l:=by rw [addS_app];rfl
theorem addS_some {l:List (Option S)} {qs:List S} {s:S}:addS key qs (l++[some s])=if key s∈(addS key qs l).map key then addS key qs l else addS key qs l++[s]:=by rw [addS_app];rfl
end
section
variable {K:Type} [DecidableEq K]
theorem numK_app {ks m:List K} {k:K} (h:k∈ks):numK (ks++m) k=numK ks k:=by
 induction ks with
 | nil=>cases h
 | cons x ks ih=>
  rw [List.cons_append,numK_c,numK_c]
  split
  ·rfl
  ·rename_i hx
   rw [ih ((List.mem_cons.1 h).resolve_left hx)]
end
structure NumT (n:Nat) (num:List Int) (ks:List Int):Prop where
 len:num.length=n
 get:∀ c:Nat,c<n→num[c]? =some (if (c:Int)∈ks then (numK ks c:Int) else -1)
theorem NumT.add {n:Nat} {num ks:List Int} (h:NumT n num ks) {c:Nat} (hc:c<n) (hn:(c:Int)∉ks):NumT n (num.set c (ks.length:Int)) (ks++[(c:Int)]):=by
 refine ⟨by rw [List.length_set];exact h.len,fun d hd=>?_⟩
 by_cases e:d=c
 ·subst e
  rw [List.getElem?_set_self (by rw [h.len];exact hc),if_pos (by simp)]
  congr 2
  rw [numK_of (m:=ks.length)]
  ·simp
  ·intro j hj
   rw [List.getElem?_append_left hj]
   exact fun g=>hn (List.mem_of_getElem? g)
 ·rw [List.getElem?_set_ne (fun e'=>e e'.symm),h.get d hd]
  congr 1
  by_cases m:(d:Int)∈ks
  ·rw [if_pos m,if_pos (List.mem_append_left _ m),numK_app m]
  ·rw [if_neg m,if_neg]
   intro g
   rcases List.mem_append.1 g with g | g
   ·exact m g
   ·rw [List.mem_singleton] at g;omega
theorem NumT.one {n:Nat} {c:Nat} (hc:c<n):NumT n ((List.replicate n (-1)).set c 0) [(c:Int)]:=by
 have h:NumT n (List.replicate n (-1)) []:=⟨by simp,fun d hd=>by rw [List.getElem?_replicate,if_pos hd];simp⟩
 exact h.add hc (by simp)
theorem iterC_hi {a:Aut}:∀ {F cnt:Nat} {cl c:List Int},a.iterC F cnt cl=some c→c.length=a.acc.length∧∀ x∈c,-1≤x∧x<(a.acc.length:Nat)
 | 0,cnt,cl,c,h=>by simp [Aut.iterC] at h
 | F+1,cnt,cl,c,h=>by
  simp only [Aut.iterC] at h
  split at h
  ·simp only [Option.some.injEq] at h
   subst h
   refine ⟨by rw [numO_len,keysC_len],fun x hx=>⟨numO_lo x hx,?_⟩⟩
   have h1:=numO_hi x hx
   have h2:=numO_count (l:=a.keysC cl) (ks:=[])
   rw [keysC_len,List.length_nil,Nat.zero_add] at h2
   omega
  ·exact iterC_hi h
def Aut.succR (a:Aut) (cl:List Int) (s:Int):List (Option Int):=(List.range a.sy.toNat).map fun k=>if clAt cl (a.go s k)<0 then none else some (a.go s k)
theorem succR_len {a:Aut} {cl:List Int} {s:Int}:(a.succR cl s).length=a.sy.toNat:=by simp [Aut.succR]
theorem succR_dom {a:Aut} (hv:a.fine) {cl:List Int} {t u:Int} (h:some u∈a.succR cl t):0≤u∧u<(a.acc.length:Nat)∧0≤clAt cl u:=by
 unfold Aut.succR at h
 obtain ⟨k,hk,e⟩:=List.mem_map.1 h
 split at e
 ·cases e
 ·rename_i g
  simp only [Option.some.injEq] at e
  have hg:=Aut.go_fine hv (x:=t) (c:=k)
  rw [e] at g hg
  have:0≤u:=by
   rcases Int.lt_or_le u 0 with h | h
   ·exfalso;apply g;simp [clAt,show ¬0≤u by omega]
   ·exact h
  exact ⟨this,by omega,by omega⟩
theorem succR_take {a:Aut} {cl:List Int} {s:Int} {k:Nat} (h:k<a.sy.toNat):(a.succR cl s).take (k+1)=(a.succR cl s).take k++[if clAt cl (a.go s k)<0 then none else some (a.go s k)]:=by
 rw [List.take_add_one]
 congr 1
 unfold Aut.succR
 rw [List.getElem?_map,List.getElem?_range h];rfl
end Go.Fsa
namespace Go.Fsa
theorem Cl0_ok {a:Aut} (hv:a.fine):ROk a (Cl0 a):=by
 have key:∀ i,i<a.acc.length→cO (Cl0 a) i=if a.liveL[i]? =some true then some (if a.acc[i]? =some true then 1 else 0) else none:=by
  intro i hi
  rw [cO_val (Cl0_get hi)]
  split
  ·split<;>simp
  ·simp
 have lv:∀ i,i<a.acc.length→(a.liveL[i]? =some true↔a.lv i):=fun i hi=>by rw [Aut.liveL_get];exact ⟨fun h=>h.2,fun h=>⟨hi,h⟩⟩
 have ac:∀ i,i<a.acc.length→(a.acc[i]? =some true↔a.accB i=true):=fun i hi=>by
  obtain ⟨b,hb⟩:∃ b,a.acc[i]? =some b:=⟨_,List.getElem?_eq_getElem hi⟩
  simp [Aut.accB,hb]
 have val:∀ i,i<a.acc.length→a.lv i→cO (Cl0 a) i=some (if a.accB i=true then 1 else 0):=fun i hi li=>by
  rw [key i hi,if_pos ((lv i hi).2 li)]
  congr 1
  by_cases h:a.accB i=true
  ·rw [if_pos h,if_pos ((ac i hi).2 h)]
  ·rw [if_neg h,if_neg fun g=>h ((ac i hi).1 g)]
 refine ⟨Cl0_len,fun x hx=>?_,fun i hi=>?_,fun i j hi hj li lj hw=>?_,fun i j hi hj li lj e=>?_⟩
 ·unfold Cl0 at hx
  obtain ⟨i,_,rfl⟩:=List.mem_map.1 hx
  split
  ·split<;>omega
  ·omega
 ·rw [key i hi,← lv i hi]
  split<;>simp_all
 ·rw [val i hi li,val j hj lj]
  have:=hw []
  simp only [Aut.accW] at this
  rw [this]
 ·rw [val i hi li,val j hj lj] at e
  cases h1:a.accB i<;>cases h2:a.accB j<;>simp_all
theorem cls_ex {a:Aut} (hv:a.fine):∃ cl,a.iterC (a.acc.length+1) 0 (Cl0 a)=some cl∧ROk a cl∧CGood a (cO cl):=iterC_ok hv (Cl0_ok hv) (Nat.zero_le _) (by omega)
def Aut.cls (a:Aut):List Int:=(a.iterC (a.acc.length+1) 0 (Cl0 a)).getD []
theorem cls_ok {a:Aut} (hv:a.fine):a.iterC (a.acc.length+1) 0 (Cl0 a)=some a.cls∧ROk a a.cls∧CGood a (cO a.cls):=by
 obtain ⟨cl,h1,h2⟩:=cls_ex hv
 have:a.cls=cl:=by unfold Aut.cls;rw [h1];rfl
 rw [this];exact ⟨h1,h2⟩
theorem clAt_hi {cl:List Int} {n:Nat} (hl:cl.length=n) (hr:∀ x∈cl,-1≤x∧x<(n:Int)) {u:Int} (h0:0≤u) (h1:u<n):-1≤clAt cl u∧clAt cl u<n:=by
 obtain ⟨y,hy⟩:∃ y,cl[u.toNat]? =some y:=⟨_,List.getElem?_eq_getElem (by omega)⟩
 have:=hr y (List.mem_of_getElem? hy)
 have e:clAt cl u=y:=by simp [clAt,h0,hy]
 rw [e];exact this
theorem clAt_neg {cl:List Int} {u:Int} (h:u<0):clAt cl u=-1:=by simp [clAt,show ¬0≤u by omega]
abbrev Aut.domR (a:Aut) (u:Int):Prop:=0≤u∧u<(a.acc.length:Nat)∧0≤clAt a.cls u
theorem domR_len {a:Aut} (hv:a.fine) {q:List Int} (h1:∀ s∈q,a.domR s) (h2:(q.map (clAt a.cls)).Nodup):q.length≤a.acc.length:=by
 obtain ⟨e1,e2⟩:=iterC_hi (cls_ok hv).1
 have:=nodup_le h2 (n:=a.acc.length) fun x hx=>by
  obtain ⟨u,hu,rfl⟩:=List.mem_map.1 hx
  have h3:=h1 u hu
  have:=clAt_hi e1 e2 h3.1 h3.2.1
  have:=h3.2.2
  omega
 simpa using this
theorem canR_ex {a:Aut} (hv:a.valid) (h:0≤clAt a.cls a.begin):∃ r,exR (clAt a.cls) (a.succR a.cls) 20001 (a.acc.length+1) 0 [a.begin]=some r:=by
 have hm:=hv.most
 have hb:a.domR a.begin:=by
  refine ⟨?_,?_,h⟩
  ·rcases Int.lt_or_le a.begin 0 with g | g
   ·rw [clAt_neg g] at h;omega
   ·exact g
  ·rcases Int.lt_or_le a.begin 0 with g | g
   ·omega
   ·have:=hv.st1
    unfold Aut.begin at g ⊢
    split
    ·omega
    ·omega
 exact exR_some (dom:=a.domR) (N:=a.acc.length) (fun s _ t ht=>succR_dom hv.fine ht) (fun q h1 h2=>domR_len hv.fine h1 h2) (by omega) (fun s hs=>by rw [List.mem_singleton] at hs;rw [hs];exact hb) (by simp) (by omega) (by simp)
def Aut.exC (a:Aut):List Int×List (List Int):=(exR (clAt a.cls) (a.succR a.cls) 20001 (a.acc.length+1) 0 [a.begin]).getD ([],[])
def Aut.can (a:Aut):Aut:=if clAt a.cls a.begin<0 then ⟨a.sy,0,[],[]⟩ else ⟨a.sy,0,a.exC.1.map a.accB,a.exC.2⟩
def Aut.canon (a:Aut):Aut×Int:=if a.valid then (a.can,0) else (⟨0,0,[],[]⟩,60)
end Go.Fsa
namespace Go.Fsa
theorem exC_spec {a:Aut} (hv:a.valid) (h:0≤clAt a.cls a.begin):exR (clAt a.cls) (a.succR a.cls) 20001 (a.acc.length+1) 0 [a.begin]=some a.exC:=by
 obtain ⟨r,hr⟩:=canR_ex hv h
 have e:a.exC=r:=by unfold Aut.exC;rw [hr];rfl
 rw [e];exact hr
theorem can_rows {a:Aut} (hv:a.valid):(∀ r∈a.can.nxt,(r.length:Int)=a.sy)∧a.can.nxt.length=a.can.acc.length∧a.can.acc.length≤a.acc.length:=by
 unfold Aut.can
 split
 ·exact ⟨fun r h=>(List.not_mem_nil h).elim,rfl,Nat.zero_le _⟩
 ·rename_i h
  have hx:=exC_spec hv (by omega)
  obtain ⟨h1,h2,h3⟩:=exR_spec hx
  have hb:=hv.lo
  have hl:a.exC.2.length=a.exC.1.length:=by simpa using h2 (Nat.zero_le _)
  refine ⟨fun r hr=>?_,by simpa using hl,?_⟩
  ·simp only at hr
   obtain ⟨j,hj,rfl⟩:=List.getElem_of_mem hr
   obtain ⟨s,hs⟩:∃ s,a.exC.1[j]? =some s:=⟨_,List.getElem?_eq_getElem (by omega)⟩
   obtain ⟨row,g1,g2,_⟩:=h3 j s (by rw [Nat.zero_add];exact hs) (Nat.zero_le _)
   rw [List.getElem?_eq_getElem hj,Option.some.injEq] at g1
   rw [g1,g2,succR_len];omega
  ·have hd:a.domR a.begin:=by
    refine ⟨?_,?_,by omega⟩
    ·rcases Int.lt_or_le a.begin 0 with g | g
     ·rw [clAt_neg g] at h;omega
     ·exact g
    ·have:=hv.st1
     unfold Aut.begin
     split<;>omega
   obtain ⟨d1,d2⟩:=exR_dom (dom:=a.domR) (fun s _ t ht=>succR_dom hv.fine ht) (fun s hs=>by rw [List.mem_singleton] at hs;rw [hs];exact hd) (by simp) hx
   simp only [List.length_map]
   exact domR_len hv.fine d1 d2
theorem canon_ok {a:Aut}:a.canon.2=0↔a.valid:=by
 unfold Aut.canon
 split
 ·rename_i h;exact ⟨fun _=>h,fun _=>rfl⟩
 ·rename_i h;exact ⟨fun g=>by simp at g,fun g=>absurd g h⟩
theorem canon_1 {a:Aut} (h:a.valid):a.canon.1=a.can:=by unfold Aut.canon;rw [if_pos h]
def Aut.isCanon (a:Aut):Bool:=decide (a.canon.2=0)&&decide (a.sy=a.canon.1.sy∧a.st=a.canon.1.st∧a.acc=a.canon.1.acc∧a.nxt=a.canon.1.nxt)
end Go.Fsa
namespace Go.Fsa
def Aut.succW (a:Aut) (s:Int):List (Option Int):=(List.range a.sy.toNat).map fun k=>some (a.go s k)
theorem begin_dom {a:Aut} (hv:a.valid):a.dom a.begin:=by
 unfold Aut.begin Aut.dom
 have:=hv.st0
 have:=hv.st1
 have:=hv.len
 split<;>omega
def Aut.exW (a:Aut):List Int×List (List Int):=(exR id a.succW (a.acc.length+2) (a.acc.length+2) 0 [a.begin]).getD ([],[])
def Aut.wh (a:Aut):Aut:=⟨a.sy,0,a.exW.1.map a.accB,a.exW.2⟩
end Go.Fsa
namespace Go.Fsa
def Aut.keysP (m:Aut) (lv:List Bool) (cl:List Nat):List (List UInt8):=(List.range m.acc.length).map fun i=>(keyAt lv m.nxt cl i).map UInt8.ofNat
def Aut.begP (m:Aut) (lv:List Bool):List (Bool×Bool):=(List.range m.acc.length).map fun i=>((lv[i]?).getD false,(m.acc[i]?).getD false)
def Aut.succP (m:Aut) (lv:List Bool) (cl:List Int) (c:Int):List (Option Int):=(List.range m.sy.toNat).map fun x=>if 0≤m.go (numK cl c:Nat) x∧lv[(m.go (numK cl c:Nat) x).toNat]? =some true then some ((cl[(m.go (numK cl c:Nat) x).toNat]?).getD 0) else none
end Go.Fsa
namespace Go.Fsa
def cP (lv:List Bool) (cl:List Nat) (i:Nat):Option Nat:=if lv[i]? =some true then cl[i]? else none
structure POk (m:Aut) (cl:List Nat):Prop where
 len:cl.length=m.acc.length
 hi:∀ c∈cl,c<m.acc.length
 inv:CInv m (cP m.liveL cl)
 dead:∀ i j,i<m.acc.length→j<m.acc.length→¬m.lv i→¬m.lv j→cl[i]? =cl[j]?
 apart:∀ i j,i<m.acc.length→j<m.acc.length→m.lv i→¬m.lv j→cl[i]?≠cl[j]?
end Go.Fsa
namespace Go.Fsa
theorem go_big' {a:Aut} (hv:a.valid) {s:Int} {k:Nat} (h:a.sy≤k):a.go s k=-1:=by
 by_cases hs:s<0
 ·exact Aut.go_neg hs
 ·obtain ⟨i,rfl⟩:∃ i:Nat,s=i:=⟨s.toNat,by omega⟩
  exact Aut.go_big hv.fine h
theorem cls_live {a:Aut} (hv:a.valid) {s:Int} (h1:s<(a.acc.length:Nat)):0≤clAt a.cls s↔∃ w,a.accW s w=true:=by
 obtain ⟨c1,c2,c3⟩:=cls_ok hv.fine
 obtain ⟨e1,e2⟩:=iterC_hi c1
 rcases Int.lt_or_le s 0 with g | g
 ·rw [clAt_neg g]
  constructor
  ·intro h;omega
  ·rintro ⟨w,hw⟩;rw [Aut.accW_neg g] at hw;cases hw
 ·obtain ⟨i,rfl⟩:∃ i:Nat,s=i:=⟨s.toNat,by omega⟩
  obtain ⟨x,hx⟩:∃ x,a.cls[i]? =some x:=⟨_,List.getElem?_eq_getElem (by omega)⟩
  have hd:=c3.dead i (by omega)
  rw [cO_val hx,show a.lv i↔∃ w,a.accW i w=true from Aut.live_iff hv.fine] at hd
  have hcl:clAt a.cls i=x:=by simp [clAt,hx]
  rw [hcl]
  constructor
  ·intro h
   refine Classical.byContradiction fun hn=>?_
   have:=hd.2 hn
   rw [if_neg (by omega)] at this;cases this
  ·intro h
   refine Classical.byContradiction fun hn=>?_
   exact hd.1 (if_pos (by omega)) h
theorem cls_same {a:Aut} (hv:a.valid) {s t:Int} (hs:a.domR s) (ht:a.domR t):clAt a.cls s=clAt a.cls t↔∀ w,a.accW s w=a.accW t w:=by
 obtain ⟨c1,c2,c3⟩:=cls_ok hv.fine
 obtain ⟨e1,e2⟩:=iterC_hi c1
 obtain ⟨h1,h2,h3⟩:=hs
 obtain ⟨g1,g2,g3⟩:=ht
 obtain ⟨i,rfl⟩:∃ i:Nat,s=i:=⟨s.toNat,by omega⟩
 obtain ⟨j,rfl⟩:∃ i:Nat,t=i:=⟨t.toNat,by omega⟩
 obtain ⟨x,hx⟩:∃ x,a.cls[i]? =some x:=⟨_,List.getElem?_eq_getElem (by omega)⟩
 obtain ⟨y,hy⟩:∃ x,a.cls[j]? =some x:=⟨_,List.getElem?_eq_getElem (by omega)⟩
 have hxe:clAt a.cls i=x:=by simp [clAt,hx]
 have hye:clAt a.cls j=y:=by simp [clAt,hy]
 have li:=(Aut.live_iff hv.fine).2 ((cls_live hv h2).1 h3)
 have lj:=(Aut.live_iff hv.fine).2 ((cls_live hv g2).1 g3)
 rw [hxe] at h3
 rw [hye] at g3
 have:=c3.iff i j (by omega) (by omega) li lj
 rw [cO_val hx,cO_val hy,opt_int (by omega) (by omega)] at this
 rw [hxe,hye];exact this
structure SimC (a m:Aut) (cl:List Nat) (s c:Int):Prop where
 dom:a.domR s
 ex:∃ i x:Nat,i<m.acc.length∧cl[i]? =some x∧c=x∧m.lv i∧∀ w,a.accW s w=m.accW i w
end Go.Fsa
namespace Go.Fsa
section
variable {S K:Type} [DecidableEq K] {key:S→K} {succ:S→List (Option S)} {most:Nat}
theorem exR_more:∀ {F i:Nat} {qs:List S} {r:List S×List (List Int)},exR key succ most F i qs=some r→∀ d,exR key succ most (F+d) i qs=some r
 | 0,i,qs,r,h,d=>by simp [exR] at h
 | F+1,i,qs,r,h,d=>by
  rw [show F+1+d=(F+d)+1 by omega]
  simp only [exR] at h ⊢
  cases hq:qs[i]? with
  | none=>rw [hq] at h;exact h
  | some s=>
   rw [hq] at h
   simp only at h ⊢
   split at h
   ·cases h
   rename_i hm
   rw [if_neg hm]
   obtain ⟨r',hr',rfl⟩:=Option.map_eq_some_iff.1 h
   rw [exR_more hr' d];rfl
theorem exR_det {F F' i:Nat} {qs:List S} {r r':List S×List (List Int)} (h:exR key succ most F i qs=some r) (h':exR key succ most F' i qs=some r'):r=r':=by
 have a:=exR_more h F'
 have b:=exR_more h' F
 rw [Nat.add_comm] at b
 rw [a] at b
 exact Option.some.inj b
end
theorem begin_domR {a:Aut} (hv:a.valid) (h:0≤clAt a.cls a.begin):a.domR a.begin:=by
 refine ⟨?_,?_,h⟩
 ·rcases Int.lt_or_le a.begin 0 with g | g
  ·rw [clAt_neg g] at h;omega
  ·exact g
 ·have:=hv.st1
  unfold Aut.begin
  split<;>omega
theorem begin_lt {a:Aut} (hv:a.valid):a.begin<(a.acc.length:Nat):=by
 have:=(begin_dom hv).2
 have:=hv.len
 omega
theorem exC_rows {a:Aut} (hv:a.valid) (h:0≤clAt a.cls a.begin):a.exC.2.length=a.exC.1.length∧a.exC.1[0]? =some a.begin∧(∀ s∈a.exC.1,a.domR s) ∧
  ∀ (j:Nat) s,a.exC.1[j]? =some s→∃ row,a.exC.2[j]? =some row∧(row.length:Int)=a.sy∧∀ k:Nat,(k:Int)<a.sy→(clAt a.cls (a.go s k)<0∧row[k]? =some (-1))∨(0≤clAt a.cls (a.go s k)∧∃ (n:Nat) (t:Int),row[k]? =some (n:Int)∧a.exC.1[n]? =some t∧clAt a.cls t=clAt a.cls (a.go s k)):=by
 have hx:=exC_spec hv h
 have hlo:=hv.lo
 obtain ⟨h1,h2,h3⟩:=exR_spec hx
 obtain ⟨d1,d2⟩:=exR_dom (dom:=a.domR) (fun s _ t ht=>succR_dom hv.fine ht) (fun s hs=>by rw [List.mem_singleton] at hs;rw [hs];exact begin_domR hv h) (by simp) hx
 refine ⟨by simpa using h2 (Nat.zero_le _),prefix_getS h1 rfl,d1,fun j s hs=>?_⟩
 obtain ⟨row,g1,g2,g3,g4⟩:=h3 j s (by rw [Nat.zero_add];exact hs) (Nat.zero_le _)
 rw [succR_len] at g2
 refine ⟨row,g1,by omega,fun k hk=>?_⟩
 have hk2:(a.succR a.cls s)[k]? =some (if clAt a.cls (a.go s k)<0 then none else some (a.go s k)):=by
  unfold Aut.succR
  rw [List.getElem?_map,List.getElem?_range (by omega)];rfl
 by_cases hc:clAt a.cls (a.go s k)<0
 ·rw [if_pos hc] at hk2
  exact .inl ⟨hc,g3 k hk2⟩
 ·rw [if_neg hc] at hk2
  obtain ⟨n,t,e1,e2,e3⟩:=g4 k _ hk2
  exact .inr ⟨by omega,n,t,e1,e2,e3⟩
theorem can_pos {a:Aut} (h:0≤clAt a.cls a.begin):a.can=⟨a.sy,0,a.exC.1.map a.accB,a.exC.2⟩:=by unfold Aut.can;rw [if_neg (by omega)]
theorem can_neg {a:Aut} (h:clAt a.cls a.begin<0):a.can=⟨a.sy,0,[],[]⟩:=by unfold Aut.can;rw [if_pos h]
theorem can_sy {a:Aut}:a.can.sy=a.sy:=by unfold Aut.can;split<;>rfl
theorem can_st {a:Aut}:a.can.st=0:=by unfold Aut.can;split<;>rfl
theorem can_valid {a:Aut} (hv:a.valid):a.can.valid:=by
 obtain ⟨r1,r2,r3⟩:=can_rows hv
 refine ⟨by rw [can_sy];exact hv.lo,by rw [can_sy];exact hv.hi,?_,r2,by rw [can_st];omega,?_,fun r hr=>?_⟩
 ·have:=hv.most;omega
 ·rw [can_st];omega
 ·refine ⟨by rw [can_sy];exact r1 r hr,fun t ht=>?_⟩
  rcases Int.lt_or_le (clAt a.cls a.begin) 0 with g | g
  ·rw [can_neg g] at hr;cases hr
  ·obtain ⟨e1,e2,e3,e4⟩:=exC_rows hv g
   rw [can_pos g] at hr ⊢
   simp only [List.length_map] at hr ⊢
   obtain ⟨j,hj,rfl⟩:=List.getElem_of_mem hr
   obtain ⟨s,hs⟩:∃ s,a.exC.1[j]? =some s:=⟨_,List.getElem?_eq_getElem (by omega)⟩
   obtain ⟨row,g1,g2,g3⟩:=e4 j s hs
   rw [List.getElem?_eq_getElem hj,Option.some.injEq] at g1
   rw [g1] at ht
   obtain ⟨k,hk,rfl⟩:=List.getElem_of_mem ht
   rcases g3 k (by omega) with ⟨_,h1⟩ | ⟨_,n,u,h1,h2,_⟩
   ·rw [List.getElem?_eq_getElem hk,Option.some.injEq] at h1
    rw [h1];omega
   ·rw [List.getElem?_eq_getElem hk,Option.some.injEq] at h1
    have:=lt_of_get h2
    rw [h1];omega
theorem dead_no {a:Aut} (hv:a.valid) {s:Int} (h1:s<(a.acc.length:Nat)) (h:clAt a.cls s<0) (w:List Nat):a.accW s w=false:=by
 cases hw:a.accW s w with
 | false=>rfl
 | true=>have:=(cls_live hv h1).2 ⟨w,hw⟩;omega
theorem can_lang {a:Aut} (hv:a.valid) (h:0≤clAt a.cls a.begin):∀ (w:List Nat) {j:Nat} {s:Int},a.exC.1[j]? =some s→a.can.accW j w=a.accW s w
 | [],j,s,hs=>by
  simp only [Aut.accW]
  have:a.can.acc[j]? =some (a.accB s):=by rw [can_pos h];simp only;rw [List.getElem?_map,hs];rfl
  simp [Aut.accB,this]
 | k::w,j,s,hs=>by
  simp only [Aut.accW]
  obtain ⟨e1,e2,e3,e4⟩:=exC_rows hv h
  by_cases hk:(k:Int)<a.sy
  ·obtain ⟨row,g1,g2,g3⟩:=e4 j s hs
   have hrow:a.can.nxt[j]? =some row:=by rw [can_pos h];exact g1
   rcases g3 k hk with ⟨hc,h1⟩ | ⟨hc,n,u,h1,h2,h3⟩
   ·rw [Aut.go_row (a:=a.can) hrow h1,Aut.accW_neg (by omega),dead_no hv (Aut.go_fine hv.fine).2 hc]
   ·rw [Aut.go_row (a:=a.can) hrow h1,can_lang hv h w h2]
    have hg:a.domR (a.go s k):=by
     refine ⟨?_,(Aut.go_fine hv.fine).2,hc⟩
     rcases Int.lt_or_le (a.go s k) 0 with g | g
     ·rw [clAt_neg g] at hc;omega
     ·exact g
    exact (cls_same hv (e3 u (List.mem_of_getElem? h2)) hg).1 h3 w
  ·rw [go_big' hv (by omega),Aut.go_big (a:=a.can) (can_valid hv).fine (by rw [can_sy];omega),Aut.accW_neg (by omega),Aut.accW_neg (by omega)]
theorem can_begin {a:Aut} (hv:a.valid) (w:List Nat):a.can.accW a.can.begin w=a.accW a.begin w:=by
 rcases Int.lt_or_le (clAt a.cls a.begin) 0 with g | g
 ·rw [dead_no hv (begin_lt hv) g,can_neg g]
  exact Aut.accW_neg (by simp [Aut.begin])
 ·obtain ⟨_,e2,_⟩:=exC_rows hv g
  have hb:a.can.begin=((0:Nat):Int):=by
   have:=lt_of_get e2
   rw [can_pos g]
   simp only [Aut.begin,List.length_map]
   rw [if_neg (by omega)];rfl
  rw [hb]
  exact can_lang hv g w e2
theorem can_uniq {a b:Aut} (ha:a.valid) (hb:b.valid) (hs:a.sy=b.sy) (h:∀ w,a.accW a.begin w=b.accW b.begin w):a.can=b.can:=by
 have live:0≤clAt a.cls a.begin↔0≤clAt b.cls b.begin:=by
  rw [cls_live ha (begin_lt ha),cls_live hb (begin_lt hb)]
  simp only [h]
 rcases Int.lt_or_le (clAt a.cls a.begin) 0 with g | g
 ·rw [can_neg g,can_neg (by omega),hs]
 ·have g':=live.1 g
  obtain ⟨q,hq,hall⟩:=exR_sim (R:=fun s t=>a.domR s∧b.domR t∧∀ w,a.accW s w=b.accW t w) (key:=clAt a.cls) (key':=clAt b.cls) (succ:=a.succR a.cls) (succ':=b.succR b.cls)
   (fun s s' t t' r1 r2=>by
    rw [cls_same ha r1.1 r2.1,cls_same hb r1.2.1 r2.2.1]
    exact ⟨fun e w=>by rw [← r1.2.2 w,← r2.2.2 w];exact e w,fun e w=>by rw [r1.2.2 w,r2.2.2 w];exact e w⟩)
   (fun s s' r=>by
    refine All2.of (by rw [succR_len,succR_len,hs]) fun k x y hx hy=>?_
    have hk:=lt_of_get hx
    rw [succR_len] at hk
    unfold Aut.succR at hx hy
    rw [List.getElem?_map,List.getElem?_range hk] at hx
    rw [List.getElem?_map,List.getElem?_range (by rw [← hs];exact hk)] at hy
    simp only [Option.map_some,Option.some.injEq] at hx hy
    subst hx;subst hy
    have hw:∀ w,a.accW (a.go s k) w=b.accW (b.go s' k) w:=fun w=>r.2.2 (k::w)
    have hl:0≤clAt a.cls (a.go s k)↔0≤clAt b.cls (b.go s' k):=by
     rw [cls_live ha (Aut.go_fine ha.fine).2,cls_live hb (Aut.go_fine hb.fine).2]
     simp only [hw]
    by_cases hc:clAt a.cls (a.go s k)<0
    ·rw [if_pos hc,if_pos (by omega)];trivial
    ·rw [if_neg hc,if_neg (by omega)]
     refine ⟨⟨?_,(Aut.go_fine ha.fine).2,by omega⟩,⟨?_,(Aut.go_fine hb.fine).2,by omega⟩,hw⟩
     ·rcases Int.lt_or_le (a.go s k) 0 with e | e
      ·rw [clAt_neg e] at hc;omega
      ·exact e
     ·rcases Int.lt_or_le (b.go s' k) 0 with e | e
      ·rw [clAt_neg e] at hl;omega
      ·exact e)
   (All2.cons (R:=fun s t=>a.domR s∧b.domR t∧∀ w,a.accW s w=b.accW t w) ⟨begin_domR ha g,begin_domR hb g',h⟩ .nil) (exC_spec ha g)
  have e:=exR_det hq (exC_spec hb g')
  rw [can_pos g,can_pos g',← e,hs]
  congr 1
  refine All2.map_eq ?_ hall
  rintro s t ⟨_,_,hw⟩
  exact hw []
/-! ### words of whole numbers -/
theorem run_accW {a:Aut} (hv:a.valid):∀ {w:List Int} {s:Int},(∀ x∈w,0≤x∧x<a.sy)→(match a.run s w with | some t=>(a.acc[t.toNat]?).getD false | none=>false)=a.accW s (w.map Int.toNat)
 | [],s,_=>by
  simp only [Aut.run,List.map_nil,Aut.accW,Aut.accB]
  by_cases h:s<0
  ·rw [if_pos h];simp [show ¬0≤s by omega]
  ·rw [if_neg h];simp [show 0≤s by omega]
 | c::w,s,h=>by
  have hc:=h c (List.mem_cons_self ..)
  simp only [Aut.run,List.map_cons,Aut.accW]
  rw [if_neg (by omega)]
  exact run_accW hv fun x hx=>h x (List.mem_cons_of_mem _ hx)
theorem accepts_accW {a:Aut} (hv:a.valid) {w:List Int} (h:∀ x∈w,0≤x∧x<a.sy):a.accepts w=a.accW a.begin (w.map Int.toNat):=by
 rw [← run_accW hv h]
 unfold Aut.accepts Aut.lead
 have h0:=hv.st0
 have h1:=hv.st1
 have hl:=hv.len
 by_cases hn:a.acc.length=0
 ·rw [if_neg (by omega)]
  have:a.begin=-1:=by simp [Aut.begin,hn]
  rw [this,Aut.run_neg (by omega)]
 ·rw [if_pos ⟨Aut.check_valid.2 hv,by omega,by omega⟩]
  have:a.begin=a.st:=by simp [Aut.begin,hn]
  rw [this]
  all_goals (cases a.run a.st w<;>rfl)
theorem accepts_bad {a:Aut} {w:List Int} (h:¬∀ x∈w,0≤x∧x<a.sy):a.accepts w=false:=by
 unfold Aut.accepts Aut.lead
 split
 ·rename_i t ht
  split at ht
  ·rw [Aut.run_word] at ht
   ·cases ht
   ·rw [List.any_eq_true]
    refine Classical.byContradiction fun hn=>h fun x hx=>Classical.byContradiction fun hx2=>hn ⟨x,hx,?_⟩
    simp only [decide_eq_true_eq];omega
  ·cases ht
 ·rfl
theorem can_accepts {a:Aut} (hv:a.valid) (w:List Int):a.can.accepts w=a.accepts w:=by
 by_cases h:∀ x∈w,0≤x∧x<a.sy
 ·rw [accepts_accW hv h,accepts_accW (can_valid hv) (by rw [can_sy];exact h),can_begin hv]
 ·rw [accepts_bad h,accepts_bad (by rw [can_sy];exact h)]
end Go.Fsa
namespace Go.Fsa
def Aut.succD (a b:Aut) (p:Int×Int):List (Option (Int×Int)):=(List.range a.sy.toNat).map fun k=>some (a.go p.1 k,b.go p.2 k)
theorem succD_len {a b:Aut} {p:Int×Int}:(a.succD b p).length=a.sy.toNat:=by simp [Aut.succD]
theorem succD_get {a b:Aut} {p:Int×Int} {c:Nat} {o:Option (Int×Int)} (h:(a.succD b p)[c]? =some o):o=some (a.go p.1 c,b.go p.2 c)∧(c:Int)<a.sy:=by
 have hc:=lt_of_get h
 rw [succD_len] at hc
 unfold Aut.succD at h
 rw [List.getElem?_map,List.getElem?_range hc] at h
 simp only [Option.map_some,Option.some.injEq] at h
 exact ⟨h.symm,by omega⟩
theorem succD_at {a b:Aut} {p:Int×Int} {k:Nat} (h:(k:Int)<a.sy):(a.succD b p)[k]? =some (some (a.go p.1 k,b.go p.2 k)):=by
 unfold Aut.succD
 rw [List.getElem?_map,List.getElem?_range (by omega)];rfl
def domD (a b:Aut) (p:Int×Int):Prop:=a.dom p.1∧b.dom p.2
theorem domD_succ {a b:Aut} (ha:a.valid) (hb:b.valid) {s:Int×Int} (_:domD a b s) {t:Int×Int} (ht:some t∈a.succD b s):domD a b t:=by
 unfold Aut.succD at ht
 obtain ⟨k,_,e⟩:=List.mem_map.1 ht
 simp only [Option.some.injEq] at e
 rw [← e];exact ⟨Aut.go_dom ha,Aut.go_dom hb⟩
theorem pair_inj {m x y x' y':Int} (hm:0<m) (hy:0≤y∧y<m) (hy':0≤y'∧y'<m) (h:y+x*m=y'+x'*m):x=x'∧y=y':=by
 have e1:(y+x*m) / m=x:=by rw [Int.add_mul_ediv_right _ _ (by omega),Int.ediv_eq_zero_of_lt hy.1 hy.2,Int.zero_add]
 have e2:(y'+x'*m) / m=x':=by rw [Int.add_mul_ediv_right _ _ (by omega),Int.ediv_eq_zero_of_lt hy'.1 hy'.2,Int.zero_add]
 rw [h,e2] at e1
 subst e1
 exact ⟨rfl,by omega⟩
theorem domD_len {a b:Aut} {q:List (Int×Int)} (h1:∀ s∈q,domD a b s) (h2:q.Nodup):q.length≤(a.nxt.length+1)*(b.nxt.length+1):=by
 have:=nodup_le (n:=(a.nxt.length+1)*(b.nxt.length+1)) (l:=q.map fun p=>(p.2+1)+(p.1+1)*((b.nxt.length+1:Nat):Int)) (List.pairwise_map.2 (h2.imp_of_mem fun {s t} hs ht h e=>by
  have ds:=h1 s hs
  have dt:=h1 t ht
  unfold domD Aut.dom at ds dt
  obtain ⟨e1,e2⟩:=pair_inj (m:=((b.nxt.length+1:Nat):Int)) (by omega) ⟨by omega,by omega⟩ ⟨by omega,by omega⟩ e
  exact h (Prod.ext (by omega) (by omega)))) fun x hx=>by
   obtain ⟨u,hu,rfl⟩:=List.mem_map.1 hx
   have du:=h1 u hu
   unfold domD Aut.dom at du
   have h0:0≤(u.1+1)*((b.nxt.length+1:Nat):Int):=Int.mul_nonneg (by omega) (by omega)
   have h3:(u.1+1)*((b.nxt.length+1:Nat):Int)≤(a.nxt.length:Int)*((b.nxt.length+1:Nat):Int):=Int.mul_le_mul_of_nonneg_right (by omega) (by omega)
   have h4:(((a.nxt.length+1)*(b.nxt.length+1):Nat):Int)=(a.nxt.length:Int)*((b.nxt.length+1:Nat):Int)+((b.nxt.length+1:Nat):Int):=by
    rw [Int.natCast_mul,show ((a.nxt.length+1:Nat):Int)=(a.nxt.length:Int)+1 from rfl,Int.add_mul,Int.one_mul]
   rw [h4]
   exact ⟨by omega,by omega⟩
 simpa using this
def fuelD (a b:Aut):Nat:=(a.nxt.length+1)*(b.nxt.length+1)+1
theorem begin_domD {a b:Aut} (ha:a.valid) (hb:b.valid):domD a b (a.begin,b.begin):=⟨begin_dom ha,begin_dom hb⟩
theorem exD_ex {a b:Aut} (ha:a.valid) (hb:b.valid) (hN:(a.nxt.length+1)*(b.nxt.length+1)≤100000):∃ r,exR id (a.succD b) 100000 (fuelD a b) 0 [(a.begin,b.begin)]=some r:=
 exR_some (dom:=domD a b) (N:=(a.nxt.length+1)*(b.nxt.length+1)) (fun s hs t ht=>domD_succ ha hb hs ht) (fun q h1 h2=>domD_len h1 (by simpa using h2)) hN (fun s hs=>by rw [List.mem_singleton] at hs;rw [hs];exact begin_domD ha hb) (by simp) (by unfold fuelD;omega) (by simp)
def Aut.exD (a b:Aut):List (Int×Int)×List (List Int):=(exR id (a.succD b) 100000 (fuelD a b) 0 [(a.begin,b.begin)]).getD ([],[])
theorem exD_spec {a b:Aut} (ha:a.valid) (hb:b.valid) (hN:(a.nxt.length+1)*(b.nxt.length+1)≤100000):exR id (a.succD b) 100000 (fuelD a b) 0 [(a.begin,b.begin)]=some (a.exD b):=by
 obtain ⟨r,hr⟩:=exD_ex ha hb hN
 have e:a.exD b=r:=by unfold Aut.exD;rw [hr];rfl
 rw [e];exact hr
theorem exD_none {a b:Aut} (ha:a.valid) (hb:b.valid) (hs:a.sy=b.sy) (hN:(a.nxt.length+1)*(b.nxt.length+1)≤100000) (h:∀ p∈(a.exD b).1,a.accB p.1=b.accB p.2):∀ (w:List Nat) {j:Nat} {p:Int×Int},(a.exD b).1[j]? =some p→a.accW p.1 w=b.accW p.2 w
 | [],j,p,hp=>h p (List.mem_of_getElem? hp)
 | k::w,j,p,hp=>by
  simp only [Aut.accW]
  by_cases hk:(k:Int)<a.sy
  ·obtain ⟨_,_,h3⟩:=exR_spec (exD_spec ha hb hN)
   obtain ⟨row,_,_,_,g4⟩:=h3 j p (by rw [Nat.zero_add];exact hp) (Nat.zero_le _)
   obtain ⟨n,t',_,e2,e3⟩:=g4 k _ (succD_at hk)
   have e3:t'=(a.go p.1 k,b.go p.2 k):=e3
   subst e3
   exact exD_none ha hb hs hN h w e2
  ·rw [go_big' ha (by omega),go_big' hb (by omega),Aut.accW_neg (by omega),Aut.accW_neg (by omega)]
theorem exD_start {a b:Aut} (ha:a.valid) (hb:b.valid) (hN:(a.nxt.length+1)*(b.nxt.length+1)≤100000):(a.exD b).1[0]? =some (a.begin,b.begin):=prefix_getS (exR_spec (exD_spec ha hb hN)).1 rfl
structure FirstBy (a b:Aut) (q:List (Int×Int)) (fi bs:List Int):Prop where
 lf:fi.length=q.length
 lb:bs.length=q.length
 get:∀ n,0<n→n<q.length→∃ (i c:Nat) (p:Int×Int),fi[n]? =some (i:Int)∧bs[n]? =some (c:Int)∧i<n∧(c:Int)<a.sy∧q[i]? =some p∧q[n]? =some (a.go p.1 c,b.go p.2 c)
 ord:∀ n,0<n→n<q.length→∃ (i c:Nat),fi[n]? =some (i:Int)∧bs[n]? =some (c:Int)∧∀ (i' c':Nat) (p:Int×Int),(i'<i∨i'=i∧c'<c)→(c':Int)<a.sy→q[i']? =some p→(a.go p.1 c',b.go p.2 c')∈q.take n
def wordTo (fi bs:List Int):Nat→Nat→List Int
 | 0,_=>[]
 | F+1,n=>if n=0 then [] else (bs[n]?).getD 0::wordTo fi bs F ((fi[n]?).getD 0).toNat
theorem accW_app {a:Aut}:∀ {u v:List Nat} {s:Int},a.accW s (u++v)=a.accW (u.foldl (fun s c=>a.go s c) s) v
 | [],v,s=>rfl
 | c::u,v,s=>by
  show a.accW (a.go s c) (u++v)=_
  rw [accW_app];rfl
theorem wordTo_ok {a b:Aut} {q:List (Int×Int)} {fi bs:List Int} (h:FirstBy a b q fi bs) {p0:Int×Int} (h0:q[0]? =some p0):∀ {F n:Nat} {p:Int×Int},n≤F→q[n]? =some p →
  ∃ u:List Nat,(wordTo fi bs F n).reverse=u.map (fun c:Nat=>(c:Int))∧(∀ c∈u,(c:Int)<a.sy)∧u.foldl (fun s c=>a.go s c) p0.1=p.1∧u.foldl (fun s c=>b.go s c) p0.2=p.2
 | 0,n,p,hn,hp=>by
  obtain rfl:n=0:=by omega
  rw [h0,Option.some.injEq] at hp
  subst hp
  exact ⟨[],rfl,fun c hc=>(List.not_mem_nil hc).elim,rfl,rfl⟩
 | F+1,n,p,hn,hp=>by
  by_cases hz:n=0
  ·subst hz
   rw [h0,Option.some.injEq] at hp
   subst hp
   exact ⟨[],by simp [wordTo],fun c hc=>(List.not_mem_nil hc).elim,rfl,rfl⟩
  ·obtain ⟨i,c,p',f1,f2,f3,f4,f5,f6⟩:=h.get n (by omega) (lt_of_get hp)
   obtain ⟨u,g1,g2,g3,g4⟩:=wordTo_ok h h0 (F:=F) (n:=i) (p:=p') (by omega) f5
   rw [f6,Option.some.injEq] at hp
   subst hp
   refine ⟨u++[c],?_,fun x hx=>?_,by rw [List.foldl_append,g3];rfl,by rw [List.foldl_append,g4];rfl⟩
   ·simp only [wordTo,if_neg hz,f1,f2,Option.getD_some,Int.toNat_natCast,List.reverse_cons,g1,List.map_append,List.map_cons,List.map_nil]
   ·rcases List.mem_append.1 hx with g | g
    ·exact g2 x g
    ·rw [List.mem_singleton] at g;rw [g];exact f4
theorem differ_some {a b:Aut} (ha:a.valid) (hb:b.valid) (hs:a.sy=b.sy) (hN:(a.nxt.length+1)*(b.nxt.length+1)≤100000) {fi bs:List Int} (h:FirstBy a b (a.exD b).1 fi bs) {n:Nat} {p:Int×Int} (hp:(a.exD b).1[n]? =some p) (hd:a.accB p.1≠b.accB p.2) {F:Nat} (hF:n≤F) :
  a.accepts (wordTo fi bs F n).reverse≠b.accepts (wordTo fi bs F n).reverse:=by
 obtain ⟨u,g1,g2,g3,g4⟩:=wordTo_ok h (exD_start ha hb hN) hF hp
 have hz:∀ x∈u.map (fun k:Nat=>(k:Int)),0≤x∧x<a.sy:=fun x hx=>by
  obtain ⟨k,hk,rfl⟩:=List.mem_map.1 hx
  have:=g2 k hk
  omega
 rw [g1,accepts_accW ha hz,accepts_accW hb (by rw [← hs];exact hz)]
 have hu:(u.map fun k:Nat=>(k:Int)).map Int.toNat=u:=by simp [List.map_map,Function.comp_def]
 rw [hu]
 have e1:=accW_app (a:=a) (u:=u) (v:=[]) (s:=a.begin)
 have e2:=accW_app (a:=b) (u:=u) (v:=[]) (s:=b.begin)
 rw [List.append_nil] at e1 e2
 rw [e1,e2,g3,g4]
 exact hd
theorem differ_none {a b:Aut} (ha:a.valid) (hb:b.valid) (hs:a.sy=b.sy) (hN:(a.nxt.length+1)*(b.nxt.length+1)≤100000) (h:∀ p∈(a.exD b).1,a.accB p.1=b.accB p.2):a.can=b.can:=
 can_uniq ha hb hs fun w=>exD_none ha hb hs hN h w (exD_start ha hb hN)
end Go.Fsa
namespace Go.Fsa
section
variable {S:Type} [DecidableEq S] {succ:S→List (Option S)} {ac:S→Bool} {most F:Nat} {s0:S} {r:List S×List (List Int)} {sy:Int}
def accS (succ:S→List (Option S)) (ac:S→Bool):S→List Nat→Bool
 | s,[]=>ac s
 | s,c::w=>match (succ s)[c]? with
  | some (some t)=>accS succ ac t w
  | _=>false
def machS (sy:Int) (ac:S→Bool) (r:List S×List (List Int)):Aut:=⟨sy,0,r.1.map ac,r.2⟩
end
def prodM (f:Bool→Bool→Bool) (a b:Aut):Aut:=machS a.sy (fun p=>f (a.accB p.1) (b.accB p.2)) (a.exD b)
def compM (a:Aut):Aut:=⟨a.sy,0,a.wh.acc.map (!·),a.wh.nxt⟩
end Go.Fsa
namespace Go.Fsa
def Aut.wds (a:Aut):Nat→Int→List (List Int)
 | 0,s=>if a.accB s then [[]] else []
 | k+1,s=>(List.range a.sy.toNat).flatMap fun c=>if 0≤a.go s c then (a.wds k (a.go s c)).map ((c:Int)::·) else []
def Aut.wdsTo (a:Aut) (k:Nat) (s:Int) (m:Nat):List (List Int):=(List.range m).flatMap fun c=>if 0≤a.go s c then (a.wds k (a.go s c)).map ((c:Int)::·) else []
theorem Aut.wdsTo_succ {a:Aut} {k m:Nat} {s:Int}:a.wdsTo k s (m+1)=a.wdsTo k s m++(if 0≤a.go s m then (a.wds k (a.go s m)).map ((m:Int)::·) else []):=by
 unfold Aut.wdsTo
 rw [List.range_succ,List.flatMap_append]
 simp
def addW (n:Nat) (acc:List (List Int)) (w:List Int) (l:List (List Int)):List (List Int):=acc++(l.map (w++·)).take (n-acc.length)
theorem addW_nil {n:Nat} {acc:List (List Int)} {w:List Int}:addW n acc w []=acc:=by simp [addW]
theorem addW_full {n:Nat} {acc:List (List Int)} {w:List Int} {l:List (List Int)} (h:n≤acc.length):addW n acc w l=acc:=by
 unfold addW
 rw [Nat.sub_eq_zero_of_le h];simp
theorem addW_app {n:Nat} {acc:List (List Int)} {w:List Int} {l m:List (List Int)}:addW n (addW n acc w l) w m=addW n acc w (l++m):=by
 unfold addW
 rw [List.append_assoc]
 congr 1
 rw [List.map_append,List.take_append]
 congr 2
 simp only [List.length_append,List.length_take,List.length_map]
 omega
theorem addW_cons {n:Nat} {acc:List (List Int)} {w:List Int} {c:Int} {l:List (List Int)}:addW n acc (w++[c]) l=addW n acc w (l.map (c::·)):=by
 unfold addW
 simp [List.map_map,Function.comp_def]
theorem addW_len {n:Nat} {acc:List (List Int)} {w:List Int} {l:List (List Int)} (h:acc.length≤n):(addW n acc w l).length≤n:=by
 unfold addW
 simp only [List.length_append,List.length_take,List.length_map]
 omega
def Aut.fulW (a:Aut) (k:Nat) (s:Int):Bool:=!(a.wds k s).isEmpty
theorem Aut.fulW_succ {a:Aut} {k:Nat} {s:Int}:a.fulW (k+1) s=(List.range a.sy.toNat).any fun c=>decide (0≤a.go s c)&&a.fulW k (a.go s c):=by
 rw [Bool.eq_iff_iff]
 unfold Aut.fulW
 simp only [Bool.not_eq_true',List.isEmpty_eq_false_iff,List.any_eq_true,Bool.and_eq_true,decide_eq_true_eq]
 simp only [Aut.wds,ne_eq,List.flatMap_eq_nil_iff,Classical.not_forall]
 constructor
 ·rintro ⟨c,hc,h⟩
  refine ⟨c,hc,?_⟩
  by_cases h0:0≤a.go s c
  ·rw [if_pos h0] at h
   exact ⟨h0,fun e=>h (by rw [e];rfl)⟩
  ·rw [if_neg h0] at h;exact absurd rfl h
 ·rintro ⟨c,hc,h0,h⟩
  refine ⟨c,hc,?_⟩
  rw [if_pos h0]
  intro e
  exact h (List.map_eq_nil_iff.1 e)
def Aut.list (a:Aut) (n:Nat):Nat→List (List Int)
 | 0=>[]
 | k+1=>addW n (a.list n k) [] (a.wds k a.st)
end Go.Fsa
namespace Go.Fsa
def lexB:List Int→List Int→Bool
 | x::u,y::v=>if x=y then lexB u v else decide (x<y)
 | _,_=>false
def lessB (u v:List Int):Bool:=if u.length=v.length then lexB u v else decide (u.length<v.length)
theorem lexB_snoc:∀ {u v:List Int} {x c:Int},u.length=v.length→lexB (u++[x]) (v++[c])=(lexB u v||(decide (u=v)&&decide (x<c)))
 | [],[],x,c,_=>by
  by_cases h:x=c
  ·subst h;simp [lexB]
  ·simp [lexB,h]
 | [],_::_,_,_,h=>by simp at h
 | _::_,[],_,_,h=>by simp at h
 | y::u,z::v,x,c,h=>by
  simp only [List.cons_append,lexB]
  by_cases e:y=z
  ·subst e
   simp only [if_true,List.cons.injEq,true_and]
   exact lexB_snoc (by simpa using h)
  ·simp [e]
theorem lessB_snoc {u v:List Int} {x c:Int} (h:lessB u v=false) (hx:u=v→¬x<c):lessB (u++[x]) (v++[c])=false:=by
 unfold lessB at h ⊢
 simp only [List.length_append,List.length_cons,List.length_nil]
 by_cases hl:u.length=v.length
 ·rw [if_pos hl] at h
  rw [if_pos (by omega),lexB_snoc hl,h,Bool.false_or]
  by_cases e:u=v
  ·simp [hx e]
  ·simp [e]
 ·rw [if_neg hl] at h
  rw [if_neg (by omega)]
  simp only [decide_eq_false_iff_not] at h ⊢
  omega
def st2 (a b:Aut) (p:Int×Int) (u:List Int):Int×Int:=u.foldl (fun s c=>(a.go s.1 c.toNat,b.go s.2 c.toNat)) p
theorem st2_snoc {a b:Aut} {p:Int×Int} {u:List Int} {x:Int}:st2 a b p (u++[x])=(a.go (st2 a b p u).1 x.toNat,b.go (st2 a b p u).2 x.toNat):=by
 unfold st2;rw [List.foldl_append];rfl
theorem st2_eq {a b:Aut} {p:Int×Int}:∀ {u:List Int} ,st2 a b p u=((u.map Int.toNat).foldl (fun s c=>a.go s c) p.1,(u.map Int.toNat).foldl (fun s c=>b.go s c) p.2):=by
 intro u
 induction u generalizing p with
 | nil=>rfl
 | cons x u ih=>exact ih
theorem snoc_cases {α:Type} (u:List α):u=[]∨∃ v x,u=v++[x]:=by
 rcases List.eq_nil_or_concat u with h | ⟨v,x,h⟩
 ·exact .inl h
 ·exact .inr ⟨v,x,by simpa using h⟩
theorem nodup_ix {α:Type} {q:List α} (h:q.Nodup) {i j:Nat} {x:α} (hi:q[i]? =some x) (hj:q[j]? =some x):i=j:=by
 have h1:=lt_of_get hi
 have h2:=lt_of_get hj
 rw [List.getElem?_eq_getElem h1,Option.some.injEq] at hi
 rw [List.getElem?_eq_getElem h2,Option.some.injEq] at hj
 exact (List.getElem_inj h).1 (hi.trans hj.symm)
theorem reach2 {a b:Aut} (ha:a.valid) (hb:b.valid) (hN:(a.nxt.length+1)*(b.nxt.length+1)≤100000) {u:List Int} (hu:∀ x∈u,0≤x∧x<a.sy):∃ m:Nat,(a.exD b).1[m]? =some (st2 a b (a.begin,b.begin) u):=by
 have key:∀ (u:List Int) (p:Int×Int) (j:Nat),(∀ x∈u,0≤x∧x<a.sy)→(a.exD b).1[j]? =some p→∃ m:Nat,(a.exD b).1[m]? =some (st2 a b p u):=by
  intro u
  induction u with
  | nil=>intro p j _ h;exact ⟨j,h⟩
  | cons x u ih=>
   intro p j hu hj
   have hx:=hu x (by simp)
   obtain ⟨_,_,h3⟩:=exR_spec (exD_spec ha hb hN)
   obtain ⟨row,_,_,_,g4⟩:=h3 j p (by rw [Nat.zero_add];exact hj) (Nat.zero_le _)
   obtain ⟨n,t',_,e2,e3⟩:=g4 x.toNat _ (succD_at (a:=a) (b:=b) (p:=p) (k:=x.toNat) (by omega))
   have e3:t'=(a.go p.1 x.toNat,b.go p.2 x.toNat):=e3
   subst e3
   exact ih _ n (fun y hy=>hu y (List.mem_cons_of_mem _ hy)) e2
 exact key u _ 0 hu (exD_start ha hb hN)
theorem first_min {a b:Aut} {q:List (Int×Int)} {fi bs:List Int} (h:FirstBy a b q fi bs) {p0:Int×Int} (h0:q[0]? =some p0) (hnd:q.Nodup) (hr:∀ u:List Int,(∀ x∈u,0≤x∧x<a.sy)→∃ m:Nat,q[m]? =some (st2 a b p0 u)) :
  ∀ (F n:Nat),n≤F→n<q.length→∀ (u:List Int) (m:Nat),(∀ x∈u,0≤x∧x<a.sy)→q[m]? =some (st2 a b p0 u)→n≤m→lessB u (wordTo fi bs F n).reverse=false
 | 0,n,hn,_,u,m,_,_,_=>by
  show lessB u []=false
  unfold lessB
  split
  ·rename_i e
   obtain rfl:=List.eq_nil_of_length_eq_zero e
   rfl
  ·simp
 | F+1,n,hn,hnl,u,m,hu,hm,hnm=>by
  by_cases hz:n=0
  ·simp only [wordTo,if_pos hz,List.reverse_nil]
   unfold lessB
   split
   ·rename_i e
    obtain rfl:=List.eq_nil_of_length_eq_zero e
    rfl
   ·simp
  ·obtain ⟨i,c,e1,e2,e3⟩:=h.ord n (by omega) hnl
   obtain ⟨i2,c2,p',d1,d2,d3,d4,d5,d6⟩:=h.get n (by omega) hnl
   obtain rfl:i2=i:=by rw [e1] at d1;simp at d1;omega
   obtain rfl:c2=c:=by rw [e2] at d2;simp at d2;omega
   simp only [wordTo,if_neg hz,e1,e2,Option.getD_some,Int.toNat_natCast,List.reverse_cons]
   rcases snoc_cases u with rfl | ⟨v,x,rfl⟩
   ·have:m=0:=nodup_ix hnd hm h0
    omega
   ·have hv:∀ y∈v,0≤y∧y<a.sy:=fun y hy=>hu y (List.mem_append_left _ hy)
    have hx:=hu x (by simp)
    obtain ⟨i',hi'⟩:=hr v hv
    rw [st2_snoc] at hm
    have hno:¬(i'<i2∨i'=i2∧x.toNat<c2):=fun hc=>by
     have hmem:=e3 i' x.toNat _ hc (by omega) hi'
     obtain ⟨j,hj⟩:=List.getElem?_of_mem hmem
     rw [List.getElem?_take] at hj
     split at hj
     ·rename_i hjn
      have:=nodup_ix hnd hj hm
      omega
     ·cases hj
    refine lessB_snoc (first_min h h0 hnd hr F i2 (by omega) (by omega) v i' hv hi' (by omega)) fun e=>?_
    obtain ⟨w,g1,g2,g3,g4⟩:=wordTo_ok h h0 (F:=F) (n:=i2) (p:=p') (by omega) d5
    have hvw:v.map Int.toNat=w:=by rw [e,g1];simp [List.map_map,Function.comp_def]
    have:st2 a b p0 v=p':=by rw [st2_eq,hvw,g3,g4]
    rw [this] at hi'
    have:=nodup_ix hnd hi' d5
    omega
theorem accepts_syms {a:Aut} {w:List Int} (h:a.accepts w=true):∀ x∈w,0≤x∧x<a.sy:=by
 intro x hx
 by_cases hc:0≤x∧x<a.sy
 ·exact hc
 ·exfalso
  have hr:∀ s,a.run s w=none:=fun s=>Aut.run_word (List.any_eq_true.2 ⟨x,hx,by rw [decide_eq_true_eq];omega⟩)
  unfold Aut.accepts Aut.lead at h
  split at h
  ·rename_i s hs
   split at hs
   ·rw [hr] at hs;cases hs
   ·cases hs
  ·cases h
theorem accepts_st {a b:Aut} (ha:a.valid) {u:List Int} (hu:∀ x∈u,0≤x∧x<a.sy):a.accepts u=a.accB ((u.map Int.toNat).foldl (fun s c=>a.go s c) a.begin):=by
 rw [accepts_accW ha hu]
 have e1:=accW_app (a:=a) (u:=u.map Int.toNat) (v:=[]) (s:=a.begin)
 rw [List.append_nil] at e1
 rw [e1];rfl
theorem differ_min {a b:Aut} (ha:a.valid) (hb:b.valid) (hs:a.sy=b.sy) (hN:(a.nxt.length+1)*(b.nxt.length+1)≤100000) {fi bs:List Int} (h:FirstBy a b (a.exD b).1 fi bs) {n:Nat} (hn:n<(a.exD b).1.length) (hf:∀ (m:Nat) (p:Int×Int),m<n→(a.exD b).1[m]? =some p→a.accB p.1=b.accB p.2) {F:Nat} (hF:n≤F)
  {u:List Int} (hd:a.accepts u≠b.accepts u):lessB u (wordTo fi bs F n).reverse=false:=by
 have hu:∀ x∈u,0≤x∧x<a.sy:=by
  cases h1:a.accepts u with
  | true=>exact accepts_syms h1
  | false=>
   cases h2:b.accepts u with
   | true=>rw [hs];exact accepts_syms h2
   | false=>rw [h1,h2] at hd;exact absurd rfl hd
 obtain ⟨m,hm⟩:=reach2 ha hb hN hu
 have hnd:(a.exD b).1.Nodup:=by
  have:=(exR_dom (dom:=domD a b) (fun s hs t ht=>domD_succ ha hb hs ht) (fun s hs=>by rw [List.mem_singleton] at hs;rw [hs];exact begin_domD ha hb) (by simp) (exD_spec ha hb hN)).2
  simpa using this
 refine first_min h (exD_start ha hb hN) hnd (fun u hu=>reach2 ha hb hN hu) F n hF hn u m hu hm ?_
 rcases Nat.lt_or_ge m n with g | g
 ·exfalso
  have:=hf m _ g hm
  rw [st2_eq] at this
  rw [accepts_st (b:=b) ha hu,accepts_st (b:=a) hb (by rw [← hs];exact hu)] at hd
  exact hd this
 ·exact g
theorem differ_all {a b:Aut} (ha:a.valid) (hb:b.valid) (hs:a.sy=b.sy) (hN:(a.nxt.length+1)*(b.nxt.length+1)≤100000) (h:∀ p∈(a.exD b).1,a.accB p.1=b.accB p.2) (u:List Int):a.accepts u=b.accepts u:=by
 by_cases hu:∀ x∈u,0≤x∧x<a.sy
 ·obtain ⟨m,hm⟩:=reach2 ha hb hN hu
  have:=h _ (List.mem_of_getElem? hm)
  rw [st2_eq] at this
  rw [accepts_st (b:=b) ha hu,accepts_st (b:=a) hb (by rw [← hs];exact hu)]
  exact this
 ·cases h1:a.accepts u with
  | true=>exact absurd (accepts_syms h1) hu
  | false=>
   cases h2:b.accepts u with
   | true=>exact absurd (by rw [hs];exact accepts_syms h2) hu
   | false=>rfl
end Go.Fsa
namespace Go.Fsa
variable {a:Aut}
def Aut.foldG (a:Aut) (s:Int) (w:List Int):Int:=(w.map Int.toNat).foldl (fun s c=>a.go s c) s
theorem foldG_neg {s:Int} (h:s<0):∀ {w:List Int},a.foldG s w<0:=by
 intro w
 induction w generalizing s with
 | nil=>exact h
 | cons c w ih=>
  show a.foldG (a.go s c.toNat) w<0
  exact ih (by rw [Aut.go_neg h];omega)
theorem mem_wds:∀ {k:Nat} {s:Int} {w:List Int},w∈a.wds k s↔(w.length=k∧(∀ x∈w,0≤x∧x<a.sy)∧a.accB (a.foldG s w)=true)
 | 0,s,w=>by
  unfold Aut.wds
  constructor
  ·intro h
   split at h
   ·rename_i hc
    simp at h
    subst h
    exact ⟨rfl,fun x hx=>absurd hx List.not_mem_nil,hc⟩
   ·exact absurd h List.not_mem_nil
  ·rintro ⟨h1,_,h3⟩
   obtain rfl:=List.eq_nil_of_length_eq_zero h1
   rw [if_pos (show a.accB s=true from h3)]
   simp
 | k+1,s,w=>by
  unfold Aut.wds
  rw [List.mem_flatMap]
  constructor
  ·rintro ⟨c,hc,h⟩
   rw [List.mem_range] at hc
   split at h
   ·obtain ⟨v,hv,rfl⟩:=List.mem_map.1 h
    obtain ⟨g1,g2,g3⟩:=mem_wds.1 hv
    refine ⟨by simp [g1],fun x hx=>?_,?_⟩
    ·rcases List.mem_cons.1 hx with rfl | hx
     ·omega
     ·exact g2 x hx
    ·show a.accB (a.foldG (a.go s (c:Int).toNat) v)=true
     rw [Int.toNat_natCast];exact g3
   ·exact absurd h List.not_mem_nil
  ·rintro ⟨h1,h2,h3⟩
   cases w with
   | nil=>simp at h1
   | cons x v=>
    have hx:=h2 x (by simp)
    change a.accB (a.foldG (a.go s x.toNat) v)=true at h3
    refine ⟨x.toNat,List.mem_range.2 (by omega),?_⟩
    have h0:0≤a.go s x.toNat:=by
     rcases Int.lt_or_le (a.go s x.toNat) 0 with g | g
     ·exfalso
      have:=foldG_neg (a:=a) g (w:=v)
      unfold Aut.accB at h3
      simp at h3
      omega
     ·exact g
    rw [if_pos h0]
    exact List.mem_map.2 ⟨v,mem_wds.2 ⟨by simpa using h1,fun y hy=>h2 y (List.mem_cons_of_mem _ hy),h3⟩,by rw [Int.toNat_of_nonneg hx.1]⟩
theorem wds_sorted:∀ {k:Nat} {s:Int},(a.wds k s).Pairwise fun u v=>lexB u v=true
 | 0,s=>by
  unfold Aut.wds
  split
  ·exact List.pairwise_singleton _ _
  ·exact List.Pairwise.nil
 | k+1,s=>by
  unfold Aut.wds
  rw [List.pairwise_flatMap]
  refine ⟨fun c _=>?_,?_⟩
  ·split
   ·rw [List.pairwise_map]
    exact (wds_sorted (k:=k)).imp fun h=>by simp only [lexB,if_true];exact h
   ·exact List.Pairwise.nil
  ·refine List.pairwise_lt_range.imp fun {c d} hcd x hx y hy=>?_
   split at hx
   ·split at hy
    ·obtain ⟨u,_,rfl⟩:=List.mem_map.1 hx
     obtain ⟨v,_,rfl⟩:=List.mem_map.1 hy
     simp only [lexB]
     rw [if_neg (by omega)]
     simp;omega
    ·exact absurd hy List.not_mem_nil
   ·exact absurd hx List.not_mem_nil
def Aut.allW (a:Aut) (k:Nat):List (List Int):=(List.range k).flatMap fun j=>a.wds j a.st
theorem allW_succ {k:Nat}:a.allW (k+1)=a.allW k++a.wds k a.st:=by
 unfold Aut.allW
 rw [List.range_succ,List.flatMap_append];simp
theorem list_eq {n:Nat}:∀ {k:Nat},a.list n k=(a.allW k).take n
 | 0=>by simp [Aut.list,Aut.allW]
 | k+1=>by
  unfold Aut.list addW
  rw [list_eq (k:=k),allW_succ,List.take_append,List.length_take]
  simp only [List.nil_append,List.map_id']
  congr 2
  omega
theorem allW_sorted {k:Nat}:(a.allW k).Pairwise fun u v=>lessB u v=true:=by
 unfold Aut.allW
 rw [List.pairwise_flatMap]
 refine ⟨fun j _=>?_,List.pairwise_lt_range.imp fun {i j} hij x hx y hy=>?_⟩
 ·refine (wds_sorted (a:=a) (k:=j) (s:=a.st)).imp_of_mem fun {u v} hu hv h=>?_
  unfold lessB
  rw [if_pos ((mem_wds.1 hu).1.trans (mem_wds.1 hv).1.symm)]
  exact h
 ·have h1:=(mem_wds.1 hx).1
  have h2:=(mem_wds.1 hy).1
  unfold lessB
  rw [if_neg (by omega)]
  simp;omega
theorem accepts_fold (ha:a.valid) {u:List Int} (hu:∀ x∈u,0≤x∧x<a.sy):a.accepts u=a.accB (a.foldG a.begin u):=accepts_st (b:=a) ha hu
theorem mem_allW (ha:a.valid) {k:Nat} {w:List Int}:w∈a.allW k↔(w.length<k∧a.accepts w=true):=by
 unfold Aut.allW
 rw [List.mem_flatMap]
 have hb:a.acc.length=0∨a.begin=a.st:=by
  unfold Aut.begin
  by_cases h:a.acc.length=0
  ·exact .inl h
  ·exact .inr (if_neg h)
 have hz:a.acc.length=0→∀ s,a.accB s=false:=fun h s=>by
  simp [Aut.accB,List.eq_nil_of_length_eq_zero h]
 constructor
 ·rintro ⟨j,hj,hw⟩
  rw [List.mem_range] at hj
  obtain ⟨g1,g2,g3⟩:=mem_wds.1 hw
  refine ⟨by omega,?_⟩
  rcases hb with h | h
  ·rw [hz h] at g3;cases g3
  ·rw [accepts_fold ha g2,h];exact g3
 ·rintro ⟨h1,h2⟩
  have hs:=accepts_syms h2
  rw [accepts_fold ha hs] at h2
  rcases hb with h | h
  ·rw [hz h] at h2;cases h2
  ·exact ⟨w.length,List.mem_range.2 h1,mem_wds.2 ⟨rfl,hs,by rw [← h];exact h2⟩⟩
theorem list_acc (ha:a.valid) {n k:Nat} {w:List Int} (h:w∈a.list n k):a.accepts w=true∧w.length<k:=by
 rw [list_eq] at h
 have:=(mem_allW ha).1 (List.mem_of_mem_take h)
 exact ⟨this.2,this.1⟩
end Go.Fsa
namespace Go.Fsa
theorem lexB_asymm:∀ {u v:List Int},lexB u v=true→lexB v u=true→False
 | [],_,h,_=>by simp [lexB] at h
 | _::_,[],h,_=>by simp [lexB] at h
 | x::u,y::v,h,k=>by
  simp only [lexB] at h k
  by_cases e:x=y
  ·subst e
   simp only [if_true] at h k
   exact lexB_asymm h k
  ·rw [if_neg e] at h
   rw [if_neg (Ne.symm e)] at k
   simp at h k
   omega
theorem lessB_asymm {u v:List Int} (h:lessB u v=true) (k:lessB v u=true):False:=by
 unfold lessB at h k
 by_cases hl:u.length=v.length
 ·rw [if_pos hl] at h
  rw [if_pos hl.symm] at k
  exact lexB_asymm h k
 ·rw [if_neg hl] at h
  rw [if_neg (Ne.symm hl)] at k
  simp at h k
  omega
theorem sorted_ext:∀ {l m:List (List Int)},l.Pairwise (fun u v=>lessB u v=true)→m.Pairwise (fun u v=>lessB u v=true)→(∀ w,w∈l↔w∈m)→l=m
 | [],[],_,_,_=>rfl
 | [],y::m,_,_,h=>by have:=(h y).2 (by simp);cases this
 | x::l,[],_,_,h=>by have:=(h x).1 (by simp);cases this
 | x::l,y::m,hl,hm,h=>by
  rw [List.pairwise_cons] at hl hm
  have exy:x=y:=by
   rcases List.mem_cons.1 ((h x).1 (by simp)) with e | e
   ·exact e
   ·rcases List.mem_cons.1 ((h y).2 (by simp)) with e' | e'
    ·exact e'.symm
    ·exact (lessB_asymm (hl.1 y e') (hm.1 x e)).elim
  subst exy
  congr 1
  refine sorted_ext hl.2 hm.2 fun w=>?_
  have hx:∀ {l:List (List Int)},(∀ a'∈l,lessB x a'=true)→¬x∈l:=fun hh hm=>by
   have:=hh x hm
   exact lessB_asymm this this
  constructor
  ·intro hw
   rcases List.mem_cons.1 ((h w).1 (List.mem_cons_of_mem _ hw)) with e | e
   ·subst e;exact absurd hw (hx hl.1)
   ·exact e
  ·intro hw
   rcases List.mem_cons.1 ((h w).2 (List.mem_cons_of_mem _ hw)) with e | e
   ·subst e;exact absurd hw (hx hm.1)
   ·exact e
theorem allW_can {a:Aut} (ha:a.valid) {k:Nat}:a.can.allW k=a.allW k:=
 sorted_ext allW_sorted allW_sorted fun w=>by rw [mem_allW (can_valid ha),mem_allW ha,can_accepts ha]
theorem list_can {a:Aut} (ha:a.valid) {n k:Nat}:a.can.list n k=a.list n k:=by rw [list_eq,list_eq,allW_can ha]
theorem lexB_total:∀ {u v:List Int},u.length=v.length→lexB u v=false→lexB v u=false→u=v
 | [],[],_,_,_=>rfl
 | [],_::_,h,_,_=>by simp at h
 | _::_,[],h,_,_=>by simp at h
 | x::u,y::v,hl,h,k=>by
  simp only [lexB] at h k
  by_cases e:x=y
  ·subst e
   simp only [if_true] at h k
   rw [lexB_total (by simpa using hl) h k]
  ·rw [if_neg e] at h
   rw [if_neg (Ne.symm e)] at k
   simp at h k
   omega
theorem lessB_total {u v:List Int} (h:lessB u v=false) (k:lessB v u=false):u=v:=by
 unfold lessB at h k
 by_cases hl:u.length=v.length
 ·rw [if_pos hl] at h
  rw [if_pos hl.symm] at k
  exact lexB_total hl h k
 ·rw [if_neg hl] at h
  rw [if_neg (Ne.symm hl)] at k
  simp at h k
  omega
theorem first_true:∀ l:List Bool,(∀ x∈l,x=false)∨∃ n:Nat,l[n]? =some true∧∀ m,m<n→l[m]? =some false
 | []=>.inl (by simp)
 | true::l=>.inr ⟨0,rfl,fun m h=>absurd h (Nat.not_lt_zero _)⟩
 | false::l=>by
  rcases first_true l with h | ⟨n,h1,h2⟩
  ·exact .inl fun x hx=>by
    rcases List.mem_cons.1 hx with e | e
    ·exact e
    ·exact h x e
  ·refine .inr ⟨n+1,h1,fun m hm=>?_⟩
   cases m with
   | zero=>rfl
   | succ m=>exact h2 m (by omega)
def keyP (m:Nat) (p:Int×Int):Nat:=((p.1+1)*((m+1:Nat):Int)+p.2+1).toNat
theorem keyP_eq {a b:Aut} {p:Int×Int} (h:domD a b p):((keyP b.nxt.length p:Nat):Int)=(p.1+1)*((b.nxt.length+1:Nat):Int)+p.2+1∧keyP b.nxt.length p<(a.nxt.length+1)*(b.nxt.length+1)∧0≤(p.1+1)*((b.nxt.length+1:Nat):Int):=by
 unfold domD Aut.dom at h
 have h0:0≤(p.1+1)*((b.nxt.length+1:Nat):Int):=Int.mul_nonneg (by omega) (by omega)
 have h3:(p.1+1)*((b.nxt.length+1:Nat):Int)≤(a.nxt.length:Int)*((b.nxt.length+1:Nat):Int):=Int.mul_le_mul_of_nonneg_right (by omega) (by omega)
 have h4:(((a.nxt.length+1)*(b.nxt.length+1):Nat):Int)=(a.nxt.length:Int)*((b.nxt.length+1:Nat):Int)+((b.nxt.length+1:Nat):Int):=by
  rw [Int.natCast_mul,show ((a.nxt.length+1:Nat):Int)=(a.nxt.length:Int)+1 from rfl,Int.add_mul,Int.one_mul]
 have e:((keyP b.nxt.length p:Nat):Int)=(p.1+1)*((b.nxt.length+1:Nat):Int)+p.2+1:=by
  unfold keyP
  rw [Int.toNat_of_nonneg (by omega)]
 exact ⟨e,by omega,h0⟩
theorem keyP_inj {a b:Aut} {p p':Int×Int} (h:domD a b p) (h':domD a b p') (e:keyP b.nxt.length p=keyP b.nxt.length p'):p=p':=by
 have e1:=(keyP_eq h).1
 have e2:=(keyP_eq h').1
 rw [e,e2] at e1
 unfold domD Aut.dom at h h'
 obtain ⟨k1,k2⟩:=pair_inj (m:=((b.nxt.length+1:Nat):Int)) (x:=p.1+1) (y:=p.2+1) (x':=p'.1+1) (y':=p'.2+1) (by omega) ⟨by omega,by omega⟩ ⟨by omega,by omega⟩ (by omega)
 exact Prod.ext (by omega) (by omega)
structure NumQ (K:Int×Int→Nat) (dom:Int×Int→Prop) (M:Nat) (N:List Int) (q:List (Int×Int)):Prop where
 len:N.length=M
 yes:∀ y∈q,N[K y]? =some ((numK q y+1:Nat):Int)
 no:∀ y,dom y→¬y∈q→N[K y]? =some 0
theorem NumQ.add {K:Int×Int→Nat} {dom:Int×Int→Prop} {M:Nat} {N:List Int} {q:List (Int×Int)} (h:NumQ K dom M N q) (hK:∀ x y,dom x→dom y→K x=K y→x=y) (hq:∀ y∈q,dom y) {y:Int×Int} (hy:dom y) (hl:K y<M) (hn:¬y∈q) :
  NumQ K dom M (N.set (K y) ((q.length+1:Nat):Int)) (q++[y]):=by
 have hlen:=h.len
 refine ⟨by rw [List.length_set];exact hlen,fun z hz=>?_,fun z hd hz=>?_⟩
 ·rcases List.mem_append.1 hz with g | g
  ·have e:¬K y=K z:=fun e=>hn (by rw [hK y z hy (hq z g) e];exact g)
   rw [List.getElem?_set_ne e,h.yes z g,numK_app g]
  ·rw [List.mem_singleton] at g
   subst g
   rw [List.getElem?_set_self (by omega),numK_of (m:=q.length)]
   ·simp
   ·intro j hj
    rw [List.getElem?_append_left hj]
    exact fun g=>hn (List.mem_of_getElem? g)
 ·have g:¬z∈q:=fun g=>hz (List.mem_append_left _ g)
  have e:¬K y=K z:=fun e=>hz (by rw [hK y z hy hd e];simp)
  rw [List.getElem?_set_ne e,h.no z hd g]
theorem NumQ.one {K:Int×Int→Nat} {dom:Int×Int→Prop} {M:Nat} (hK:∀ x y,dom x→dom y→K x=K y→x=y) (hM:∀ x,dom x→K x<M) {y:Int×Int} (hy:dom y):NumQ K dom M ((List.replicate M 0).set (K y) 1) [y]:=by
 have h:NumQ K dom M (List.replicate M 0) []:=⟨by simp,fun y h=>(List.not_mem_nil h).elim,fun y hy _=>by rw [List.getElem?_replicate,if_pos (hM y hy)]⟩
 exact h.add hK (fun y h=>(List.not_mem_nil h).elim) hy (hM y hy) (by simp)
end Go.Fsa
