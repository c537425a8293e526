import PyProof.Rows.All
import Wide.All
import OpenK.AllK
import Wide.FinOn
import Lean
import PySem.Challenge.RW_uf030007_13

set_option Elab.async false
set_option autoImplicit false
set_option linter.all false
set_option genInjectivity false
set_option genSizeOf false
set_option backward.match.sparseCases false
set_option backward.eqns.nonrecursive false
set_option bootstrap.genMatcherCode false

section
namespace Mine
noncomputable abbrev Lbl:=Nat × Nat
inductive V where
 | none
 | bool (b:Bool)
 | int (i:Int)
 | str (s:List Nat)
 | tup (l:List V)
 | lst (l:List V)
 | ref (l:Lbl)
 | exc (c:Nat)
noncomputable instance:DecidableEq V:=fun a b=>Classical.propDecidable (a = b)
noncomputable abbrev TK:=Int × (List Nat ⊕ Int)
inductive MObj where
 | list (l:List V)
 | dict (l:List (V × V))
 | tdict (l:List (TK × V))
 | inst (c:Nat) (as:List (Nat × V))
noncomputable instance:DecidableEq MObj:=fun a b=>Classical.propDecidable (a = b)
set_option genCtorIdx false in
structure MS where
 heap:Lbl → Option MObj
 cnt:Nat → Nat
 wr:Nat
inductive Res (α:Type) where
 | ok (a:α) (s:MS)
 | exc (c:Nat) (s:MS)
 | stuck
theorem no_stuck {α:Type} {a:α} {s:MS} {P:Prop} (e:(Res.stuck:Res α) = .ok a s):P:=by cases e
theorem no_none {α:Type} {a:α} {P:Prop} (e:(none:Option α) = some a):P:=by cases e
theorem no_ft {P:Prop} (e:false = true):P:=by cases e
theorem no_tf {P:Prop} (e:true = false):P:=by cases e
noncomputable def Res.bind {α β:Type}:Res α → (α → MS → Res β) → Res β
 | .ok a s,f=>f a s
 | .exc c s,_=>.exc c s
 | .stuck,_=>.stuck
noncomputable def Res.bnd {α β:Type}:Res α → (α → MS → Res β) → Res β
 | .ok a s,f=>f a s
 | _,_=>.stuck
noncomputable def MS.put (s:MS) (l:Lbl) (o:MObj):MS:={ s with heap:=fun x=>if x = l then some o else s.heap x,wr:=s.wr + 1 }
noncomputable def MS.next (s:MS) (k:Nat):Lbl:=(k,s.cnt k)
noncomputable def MS.new (s:MS) (k:Nat) (o:MObj):MS:={ s with heap:=fun x=>if x = (k,s.cnt k) then some o else s.heap x,cnt:=fun j=>if j = k then s.cnt k + 1 else s.cnt j }
inductive Bop where | add | sub | mul | fdiv | mod | pow
inductive Cop where | eq | ne | lt | le | gt | ge | isin | notin
inductive Kind where | int | bool | str | list | tuple | valueError | cls (c:Nat)
inductive Prim where | len | max2 | int1 | sorted | tuple1 | list1 | all1
inductive Bm where | append | extend | pop | insert | count | get | join | upper
set_option genCtorIdx false in
inductive E where
 | none
 | bool (b:Bool)
 | int (i:Int)
 | str (s:List Nat)
 | loc (i:Nat)
 | gint (x:PySem.Str) (i:Int)
 | gstr (x:PySem.Str) (s:List Nat)
 | neg (a:E)
 | not (a:E)
 | and (l:List E)
 | or (l:List E)
 | bin (o:Bop) (a b:E)
 | cmp (a:E) (o:Cop) (b:E)
 | cmp2 (a:E) (o:Cop) (b:E) (o2:Cop) (c:E)
 | isC (neg:Bool) (a:E) (c:V)
 | tup (l:List E)
 | lst (l:List E)
 | lstM (k:Nat) (l:List E)
 | dictM (k:Nat) (ks:List (List Nat)) (vs:List E)
 | sub (a b:E)
 | slice (a:E) (lo hi:Option E)
 | attr (a:E) (i:Nat)
 | call (f:Nat) (l:List E)
 | meth (a:E) (m:Nat) (l:List E)
 | new (c:Nat) (l:List E)
 | isinst (a:E) (ks:List Kind)
 | prim (p:Prim) (l:List E)
 | listM (k:Nat) (a:E)
 | dictC (k:Nat) (a:E)
 | bm (m:Bm) (a:E) (l:List E)
 | comp (M:Option Nat) (slot:Nat) (range:Bool) (it:E) (cond:Option E) (elt:E)
set_option genCtorIdx false in
inductive T where
 | loc (i:Nat)
 | item (a b:E)
set_option genCtorIdx false in
inductive S where
 | expr (e:E)
 | assign (i:Nat) (e:E)
 | setattr (a:E) (i:Nat) (e:E)
 | setitem (a b e:E)
 | unpack (ts:List T) (e:E)
 | ite (c:E) (b1 b2:List S)
 | for_ (ts:T ⊕ List T) (range:Bool) (it:E) (body:List S)
 | ret (e:Option E)
 | raise (c:Nat)
set_option genCtorIdx false in
structure Fn where
 np:Nat
 names:List PySem.Str
 body:List S
noncomputable abbrev Loc:=List (Option V)
set_option genCtorIdx false in
structure Prog where
 fns:Nat → Option Fn
 meths:Nat → Nat → Option Nat
 inits:Nat → Option (Nat × Nat)   -- class: kind of its labels,its __init__
 excBase:Nat → List Nat           -- classes that an exception class is under (itself too)
inductive Fl where
 | next
 | ret (v:V)
noncomputable def seqOf (s:MS):V → Option (Bool × List V)
 | .tup l=>some (false,l)
 | .lst l=>some (true,l)
 | .ref r=>match s.heap r with
  | some (.list l)=>some (true,l)
  | _=>Option.none
 | _=>Option.none
noncomputable def zipAll (f:V → V → Option Bool):List V → List V → Option Bool
 | [],[]=>some true
 | x :: la,y :: lb=>match f x y,zipAll f la lb with
  | some p,some q=>some (p && q)
  | _,_=>Option.none
 | [],_ :: _=>some false
 | _ :: _,[]=>some false
noncomputable def eqNotSeq:V → Option Bool
 | .none=>some false
 | .bool _=>some false
 | .int _=>some false
 | .str _=>some false
 | _=>Option.none
noncomputable def eqFlat (a b:V):Option Bool:=match a with
 | .none=>(match b with | .none=>some true | .bool _=>some false | .int _=>some false | .str _=>some false | _=>Option.none)
 | .bool x=>(match b with | .none=>some false | .bool y=>some (x == y) | .str _=>some false | _=>Option.none)
 | .int x=>(match b with | .none=>some false | .int y=>some (decide (x = y)) | .str _=>some false | _=>Option.none)
 | .str x=>(match b with | .none=>some false | .bool _=>some false | .int _=>some false | .str y=>some (decide (x = y)) | _=>Option.none)
 | _=>Option.none
noncomputable def veq (s:MS):Nat → V → V → Option Bool
 | 0,_,_=>Option.none
 | n + 1,a,b =>
  match seqOf s a,seqOf s b with
  | some p,some q=>if p.1 = q.1 then (if p.1 = true ∧ p.2.length ≠ q.2.length then some false else zipAll (veq s n) p.2 q.2) else some false
  | some _,Option.none=>eqNotSeq b
  | Option.none,some _=>eqNotSeq a
  | Option.none,Option.none=>eqFlat a b
noncomputable def eqDeep:Nat:=12
noncomputable def sizeMax:Nat:=2 ^ 24
noncomputable def V.isKey:V → Bool
 | .str _=>true
 | _=>false
noncomputable def keyEq (a b:V):Bool:=match a with
 | .str x=>(match b with | .str y=>decide (x = y) | _=>false)
 | _=>false
noncomputable def dfind (k:V):List (V × V) → Option V
 | []=>Option.none
 | (a,v) :: r=>if keyEq a k then some v else dfind k r
noncomputable def dput (k v:V):List (V × V) → List (V × V)
 | []=>[(k,v)]
 | (a,w) :: r=>if keyEq a k then (a,v) :: r else (a,w) :: dput k v r
noncomputable def afind (k:Nat):List (Nat × V) → Option V
 | []=>Option.none
 | (a,v) :: r=>if a = k then some v else afind k r
noncomputable def aput (k:Nat) (v:V):List (Nat × V) → List (Nat × V)
 | []=>[(k,v)]
 | (a,w) :: r=>if a = k then (a,v) :: r else (a,w) :: aput k v r
noncomputable def idx (i:Int) (n:Nat):Option Nat :=
 if 0 ≤ i then (if i < n then some i.toNat else Option.none) else (if 0 ≤ i + n then some (i + n).toNat else Option.none)
noncomputable def vin (s:MS) (x:V):List V → Option Bool
 | []=>some false
 | y :: r=>match veq s eqDeep y x,vin s x r with
  | some p,some q=>some (p || q)
  | _,_=>Option.none
noncomputable def okV (s:MS) (o:Option V):Res V:=match o with
 | some v=>.ok v s
 | Option.none=>.stuck
noncomputable def okB (s:MS) (o:Option Bool):Res V:=match o with
 | some b=>.ok (.bool b) s
 | Option.none=>.stuck
noncomputable def intBits (i:Int):Nat:=if i = 0 then 0 else i.natAbs.log2 + 1
noncomputable def mulOk (a b:Int):Bool:=intBits a ≤ 64 || intBits b ≤ 64 || intBits a + intBits b ≤ 134217728
noncomputable def seqAdd (a b:V) (s:MS):Res V :=
 match seqOf s a,seqOf s b with
 | some p,some q=>if p.1 = q.1 ∧ p.2.length + q.2.length ≤ sizeMax then .ok (if p.1 then .lst (p.2 ++ q.2) else .tup (p.2 ++ q.2)) s else .stuck
 | _,_=>.stuck
noncomputable def int2 (a b:V) (f:Int → Int → Res V):Res V:=match a with
 | .int x=>(match b with | .int y=>f x y | _=>.stuck)
 | _=>.stuck
noncomputable def str2 (a b:V) (f:List Nat → List Nat → Res V):Res V:=match a with
 | .str x=>(match b with | .str y=>f x y | _=>.stuck)
 | _=>.stuck
noncomputable def binOp (o:Bop) (a b:V) (s:MS):Res V :=
 match o with
 | .add=>(match a with
  | .int _=>int2 a b fun x y=>.ok (.int (x + y)) s
  | .str _=>str2 a b fun x y=>if x.length + y.length ≤ sizeMax then .ok (.str (x ++ y)) s else .stuck
  | _=>seqAdd a b s)
 | .sub=>int2 a b fun x y=>.ok (.int (x - y)) s
 | .mul=>int2 a b fun x y=>if mulOk x y then .ok (.int (x * y)) s else .stuck
 | .fdiv=>int2 a b fun x y=>if y = 0 ∨ 64 < intBits y then .stuck else .ok (.int (x.fdiv y)) s
 | .mod=>int2 a b fun x y=>if y = 0 then .stuck else .ok (.int (x.fmod y)) s
 | .pow=>int2 a b fun x y=>if 0 ≤ y ∧ (intBits x:Int) * y ≤ 134217728 then .ok (.int (x ^ y.toNat)) s else .stuck
theorem int2_ok {a b v:V} {f:Int → Int → Res V} {s:MS} (h:int2 a b f = .ok v s):∃ x y,a = .int x ∧ b = .int y ∧ f x y = .ok v s:=by
 cases a with
 | int x=>cases b with
  | int y=>exact ⟨x,y,rfl,rfl,h⟩
  | _=>exact no_stuck h
 | _=>exact no_stuck h
theorem str2_ok {a b v:V} {f:List Nat → List Nat → Res V} {s:MS} (h:str2 a b f = .ok v s):∃ x y,a = .str x ∧ b = .str y ∧ f x y = .ok v s:=by
 cases a with
 | str x=>cases b with
  | str y=>exact ⟨x,y,rfl,rfl,h⟩
  | _=>exact no_stuck h
 | _=>exact no_stuck h
theorem ite_ok {c:Prop} [Decidable c] {a v:V} {s s':MS} (h:(if c then Res.ok a s else .stuck) = .ok v s'):c ∧ a = v ∧ s = s':=by
 by_cases hc:c
 ·rw [if_pos hc] at h; cases h; exact ⟨hc,rfl,rfl⟩
 ·rw [if_neg hc] at h; exact no_stuck h
theorem ite_no {c:Prop} [Decidable c] {a v:V} {s s':MS} (h:(if c then .stuck else Res.ok a s) = .ok v s'):¬ c ∧ a = v ∧ s = s':=by
 by_cases hc:c
 ·rw [if_pos hc] at h; exact no_stuck h
 ·rw [if_neg hc] at h; cases h; exact ⟨hc,rfl,rfl⟩
noncomputable def cmpOp (o:Cop) (a b:V) (s:MS):Res V :=
 match o with
 | .eq=>okB s (veq s eqDeep a b)
 | .ne=>okB s ((veq s eqDeep a b).map (!·))
 | .lt=>match a,b with | .int x,.int y=>.ok (.bool (decide (x < y))) s | _,_=>.stuck
 | .le=>match a,b with | .int x,.int y=>.ok (.bool (decide (x ≤ y))) s | _,_=>.stuck
 | .gt=>match a,b with | .int x,.int y=>.ok (.bool (decide (y < x))) s | _,_=>.stuck
 | .ge=>match a,b with | .int x,.int y=>.ok (.bool (decide (y ≤ x))) s | _,_=>.stuck
 | .isin=>okB s (memb a b s)
 | .notin=>okB s ((memb a b s).map (!·))
where
 memb (a b:V) (s:MS):Option Bool :=
  match seqOf s b with
  | some (_,l)=>vin s a l
  | Option.none=>match b with
   | .str y=>match a with | .str [c]=>some (decide (c ∈ y)) | _=>Option.none
   | .ref r=>match s.heap r with
    | some (.dict l)=>if a.isKey then some (dfind a l).isSome else Option.none
    | _=>Option.none
   | _=>Option.none
noncomputable def getItem (a b:V) (s:MS):Res V :=
 match b with
 | .int i=>match a with
  | .str x=>if x.length ≤ sizeMax then okV s ((idx i x.length).bind fun j=>(x[j]?).map fun c=>.str [c]) else .stuck
  | a=>match seqOf s a with
   | some (_,l)=>okV s ((idx i l.length).bind fun j=>l[j]?)
   | Option.none=>.stuck
 | b=>match a with
  | .ref r=>match s.heap r with
   | some (.dict l)=>if b.isKey then okV s (dfind b l) else .stuck
   | _=>.stuck
  | _=>.stuck
noncomputable def listAt (a:V) (s:MS):Option (Lbl × List V) :=
 match a with
 | .ref r=>match s.heap r with
  | some (.list l)=>some (r,l)
  | _=>Option.none
 | _=>Option.none
noncomputable def dictAt (a:V) (s:MS):Option (Lbl × List (V × V)) :=
 match a with
 | .ref r=>match s.heap r with
  | some (.dict l)=>some (r,l)
  | _=>Option.none
 | _=>Option.none
noncomputable def setItem (a b v:V) (s:MS):Res Unit :=
 match listAt a s with
 | some p=>match b with
  | .int i=>if 0 ≤ i ∧ i < p.2.length then .ok () (s.put p.1 (.list (p.2.set i.toNat v))) else .stuck
  | _=>.stuck
 | Option.none=>match dictAt a s with
  | some p=>if b.isKey ∧ p.2.length < sizeMax then .ok () (s.put p.1 (.dict (dput b v p.2))) else .stuck
  | Option.none=>.stuck
noncomputable def cutAt (d:Nat):Option V → Option Nat
 | Option.none=>some d
 | some (.int i)=>if 0 ≤ i then some i.toNat else Option.none
 | _=>Option.none
noncomputable def getSlice (a:V) (lo hi:Option V) (s:MS):Res V :=
 match a with
 | .str x=>match cutAt 0 lo,cutAt x.length hi with
  | some i,some j=>if x.length ≤ sizeMax then .ok (.str ((x.take j).drop i)) s else .stuck
  | _,_=>.stuck
 | a=>match seqOf s a with
  | some (true,l)=>match cutAt 0 lo,cutAt l.length hi with
   | some i,some j=>.ok (.lst ((l.take j).drop i)) s
   | _,_=>.stuck
  | some (false,l)=>match cutAt 0 lo,cutAt l.length hi with
   | some i,some j=>if ((l.take j).drop i).length < l.length then .ok (.tup ((l.take j).drop i)) s else .stuck
   | _,_=>.stuck
  | Option.none=>.stuck
noncomputable def getAttr (a:V) (i:Nat) (s:MS):Res V :=
 match a with
 | .ref r=>match s.heap r with
  | some (.inst _ as)=>okV s (afind i as)
  | _=>.stuck
 | _=>.stuck
noncomputable def setAttr (a:V) (i:Nat) (v:V) (s:MS):Res Unit :=
 match a with
 | .ref r=>match s.heap r with
  | some (.inst c as)=>if as.length < 1000 then .ok () (s.put r (.inst c (aput i v as))) else .stuck
  | _=>.stuck
 | _=>.stuck
inductive Tag where | none | bool | int | str | tuple | list | dict
noncomputable def tagOf (s:MS):V → Option Tag
 | .none=>some .none
 | .bool _=>some .bool
 | .int _=>some .int
 | .str _=>some .str
 | .tup _=>some .tuple
 | .lst _=>some .list
 | .ref r=>match s.heap r with
  | some (.list _)=>some .list
  | some (.dict _)=>some .dict
  | _=>Option.none
 | .exc _=>Option.none
noncomputable def kindHas (g:Tag):Kind → Option Bool
 | .int=>some (match g with | .int | .bool=>true | _=>false)
 | .bool=>some (match g with | .bool=>true | _=>false)
 | .str=>some (match g with | .str=>true | _=>false)
 | .tuple=>some (match g with | .tuple=>true | _=>false)
 | .list=>some (match g with | .list=>true | _=>false)
 | .valueError=>Option.none
 | .cls _=>Option.none
noncomputable def isKind (P:Prog) (s:MS) (v:V) (k:Kind):Option Bool :=
 match v with
 | .exc d=>match k with
  | .valueError=>some true
  | .cls c=>some ((P.excBase d).contains c)
  | _=>Option.none
 | v=>match tagOf s v with
  | some g=>kindHas g k
  | Option.none=>Option.none
noncomputable def isKinds (P:Prog) (s:MS) (v:V):List Kind → Option Bool
 | []=>some false
 | k :: r=>match isKind P s v k with
  | some true=>some true
  | some false=>isKinds P s v r
  | Option.none=>Option.none
noncomputable def allTrue:List V → Option Bool
 | []=>some true
 | .bool b :: r=>(allTrue r).map (b && ·)
 | _ :: _=>Option.none
noncomputable def firstInt:V → Option Int
 | .tup (.int x :: _)=>some x
 | _=>Option.none
noncomputable def rising:List Int → Bool
 | x :: y :: r=>decide (x < y) && rising (y :: r)
 | _=>true
noncomputable def posOf (x:Int):List Int → Nat
 | []=>0
 | k :: r=>if x < k then 0 else posOf x r + 1
noncomputable def wantL (m pos:Nat):List Nat:=List.range pos ++ m :: (List.range (m - pos)).map (pos + ·)
noncomputable def sortedLast (l:List V):Option (List V) :=
 match l.reverse with
 | []=>some []
 | v :: r=>match firstInt v,(r.reverse).mapM firstInt with
  | some x,some ks=>if rising ks && !ks.contains x && decide (l.length ≤ 6) then some ((wantL ks.length (posOf x ks)).map fun i=>l.getD i .none) else Option.none
  | _,_=>Option.none
noncomputable def lenV (v:V) (s:MS):Res V :=
 match v with
 | .str x=>if x.length ≤ sizeMax then .ok (.int x.length) s else .stuck
 | v=>match seqOf s v with
  | some p=>.ok (.int p.2.length) s
  | Option.none=>.stuck
noncomputable def prim1 (p:Prim) (v:V) (s:MS):Res V :=
 match p with
 | .len=>lenV v s
 | .tuple1=>match seqOf s v with
  | some p=>.ok (.tup p.2) s
  | Option.none=>.stuck
 | .list1=>match seqOf s v with
  | some p=>.ok (.lst p.2) s
  | Option.none=>.stuck
 | .all1=>match v with
  | .lst l=>okB s (allTrue l)
  | _=>.stuck
 | .sorted=>match v with
  | .lst l=>match sortedLast l with
   | some m=>.ok (.lst m) s
   | Option.none=>.stuck
  | _=>.stuck
 | _=>.stuck
noncomputable def prim2 (p:Prim) (v w:V) (s:MS):Res V :=
 match p with
 | .max2=>match v,w with
  | .int x,.int y=>.ok (.int (if x < y then y else x)) s
  | _,_=>.stuck
 | _=>.stuck
noncomputable def prim (p:Prim) (l:List V) (s:MS):Res V :=
 match l with
 | [v]=>prim1 p v s
 | [v,w]=>prim2 p v w s
 | _=>.stuck
noncomputable def catStrs:List V → Option (List Nat)
 | []=>some []
 | .str x :: r=>(catStrs r).map (x ++ ·)
 | _=>Option.none
noncomputable def bm0 (m:Bm) (a:V) (s:MS):Res V :=
 match m with
 | .upper=>match a with
  | .str x=>if x.all (fun c=>decide (97 ≤ c) && decide (c ≤ 122)) && decide (x.length ≤ 1000) then .ok (.str (x.map (· - 32))) s else .stuck
  | _=>.stuck
 | _=>.stuck
noncomputable def bm1 (m:Bm) (a v:V) (s:MS):Res V :=
 match m with
 | .append=>match listAt a s with
  | some p=>if p.2.length < sizeMax then .ok .none (s.put p.1 (.list (p.2 ++ [v]))) else .stuck
  | Option.none=>.stuck
 | .extend=>match listAt a s with
  | some p=>match seqOf s v with
   | some q=>if p.2.length + q.2.length ≤ sizeMax then .ok .none (s.put p.1 (.list (p.2 ++ q.2))) else .stuck
   | Option.none=>.stuck
  | Option.none=>.stuck
 | .pop=>match listAt a s with
  | some p=>match v with
   | .int i=>match idx i p.2.length with
    | some j=>match p.2[j]? with
     | some v=>.ok v (s.put p.1 (.list (p.2.eraseIdx j)))
     | Option.none=>.stuck
    | Option.none=>.stuck
   | _=>.stuck
  | Option.none=>.stuck
 | .join=>match a with
  | .str x0=>match x0 with
   | []=>match v with
    | .lst l=>match catStrs l with
     | some x=>if x.length ≤ sizeMax then .ok (.str x) s else .stuck
     | Option.none=>.stuck
    | _=>.stuck
   | _ :: _=>.stuck
  | _=>.stuck
 | _=>.stuck
noncomputable def bm2 (m:Bm) (a v w:V) (s:MS):Res V :=
 match m with
 | .insert=>match listAt a s,v with
  | some p,.int i=>if 0 ≤ i ∧ i ≤ p.2.length ∧ p.2.length < sizeMax then .ok .none (s.put p.1 (.list (p.2.take i.toNat ++ w :: p.2.drop i.toNat))) else .stuck
  | _,_=>.stuck
 | .get=>match dictAt a s with
  | some p=>if v.isKey then .ok ((dfind v p.2).getD w) s else .stuck
  | Option.none=>.stuck
 | _=>.stuck
noncomputable def bmeth (m:Bm) (a:V) (l:List V) (s:MS):Res V :=
 match l with
 | []=>bm0 m a s
 | [v]=>bm1 m a v s
 | [v,w]=>bm2 m a v w s
 | _=>.stuck
noncomputable def itemsOf (s:MS) (range:Bool) (v:V):Option (List V) :=
 match range with
 | true=>match v with
  | .int n=>if -1000 ≤ n ∧ n ≤ sizeMax then some ((List.range n.toNat).map fun (i:Nat)=>.int i) else Option.none
  | _=>Option.none
 | false=>match v with
  | .str x=>if x.all (fun c=>decide (c < 128)) then some (x.map fun c=>.str [c]) else Option.none
  | v=>match dictAt v s with
   | some p=>some (p.2.map (·.1))
   | Option.none=>(seqOf s v).map (·.2)
noncomputable def stays (s₀ s:MS) (range:Bool) (v:V):Bool :=
 match range,v with
 | false,.ref r=>decide (s₀.heap r = s.heap r) && ((dictAt v s₀).isNone || decide (s₀.wr = s.wr))
 | _,_=>true
noncomputable abbrev Calls:=Nat → List V → MS → Res V
noncomputable def truth:V → MS → Res Bool
 | .bool b,s=>.ok b s
 | _,_=>.stuck
noncomputable def makeInst (P:Prog) (C:Calls) (c:Nat) (vs:List V) (s:MS):Res V :=
 match P.inits c with
 | some (k,f)=>(C f (.ref (k,s.cnt k) :: vs) (s.new k (.inst c []))).bind fun r s'=>match r with
  | .none=>.ok (.ref (k,s.cnt k)) s'
  | _=>.stuck
 | Option.none=>.stuck
noncomputable def methOf (P:Prog) (a:V) (m:Nat) (s:MS):Option Nat :=
 match a with
 | .ref r=>match s.heap r with
  | some (.inst c _)=>P.meths c m
  | _=>Option.none
 | _=>Option.none
noncomputable def bmOk (m:Bm) (a:V) (s:MS):Bool :=
 match m with
 | .count=>match a with | .lst _=>true | _=>false
 | .join=>match a with | .str _=>true | _=>false
 | .upper=>match a with | .str _=>true | _=>false
 | .get=>(dictAt a s).isSome
 | _=>(listAt a s).isSome
noncomputable def compLoop (s₀:MS) (range:Bool) (src:V) (slot:Nat) (cond:Option (Loc → MS → Res V)) (elt:Loc → MS → Res V) (loc:Loc):List V → List V → MS → Res (List V)
 | acc,[],s=>if stays s₀ s range src then .ok acc s else .stuck
 | acc,x :: r,s =>
  if stays s₀ s range src then
   (match cond with
    | some c=>(c (loc.set slot (some x)) s).bind truth
    | Option.none=>.ok true s).bind fun b s =>
   if b then (elt (loc.set slot (some x)) s).bind fun v s=>if acc.length < sizeMax then compLoop s₀ range src slot cond elt loc (acc ++ [v]) r s else .stuck
   else compLoop s₀ range src slot cond elt loc acc r s
  else .stuck
theorem compLoop_nil {s₀:MS} {range:Bool} {src:V} {slot:Nat} {cond:Option (Loc → MS → Res V)} {elt:Loc → MS → Res V} {loc:Loc} {acc:List V} {s:MS}:compLoop s₀ range src slot cond elt loc acc [] s = if stays s₀ s range src then .ok acc s else .stuck:=rfl
theorem compLoop_cons {s₀:MS} {range:Bool} {src x:V} {r:List V} {slot:Nat} {cond:Option (Loc → MS → Res V)} {elt:Loc → MS → Res V} {loc:Loc} {acc:List V} {s:MS}:compLoop s₀ range src slot cond elt loc acc (x :: r) s =
  if stays s₀ s range src then
   (match cond with
    | some c=>(c (loc.set slot (some x)) s).bind truth
    | Option.none=>.ok true s).bind fun b s =>
   if b then (elt (loc.set slot (some x)) s).bind fun v s=>if acc.length < sizeMax then compLoop s₀ range src slot cond elt loc (acc ++ [v]) r s else .stuck
   else compLoop s₀ range src slot cond elt loc acc r s
  else .stuck:=rfl
mutual
noncomputable def ev (P:Prog) (C:Calls):E → Loc → MS → Res V
 | .none,_,s=>.ok .none s
 | .bool b,_,s=>.ok (.bool b) s
 | .int i,_,s=>.ok (.int i) s
 | .str x,_,s=>.ok (.str x) s
 | .loc i,l,s=>match l[i]? with
  | some (some v)=>.ok v s
  | _=>.stuck
 | .gint _ i,_,s=>.ok (.int i) s
 | .gstr _ x,_,s=>.ok (.str x) s
 | .neg a,l,s=>(ev P C a l s).bind fun v s=>match v with
  | .int i=>.ok (.int (-i)) s
  | _=>.stuck
 | .not a,l,s=>(ev P C a l s).bind fun v s=>(truth v s).bind fun b s=>.ok (.bool (!b)) s
 | .and es,l,s=>evAnd P C es l s
 | .or es,l,s=>evOr P C es l s
 | .bin o a b,l,s=>(ev P C a l s).bind fun x s=>(ev P C b l s).bind fun y s=>binOp o x y s
 | .cmp a o b,l,s=>(ev P C a l s).bind fun x s=>(ev P C b l s).bind fun y s=>cmpOp o x y s
 | .cmp2 a o b o2 c,l,s=>(ev P C a l s).bind fun x s=>(ev P C b l s).bind fun y s=>(cmpOp o x y s).bind fun v s=>(truth v s).bind fun t s =>
   if t then (ev P C c l s).bind fun z s=>cmpOp o2 y z s else .ok (.bool false) s
 | .isC n a c,l,s=>(ev P C a l s).bind fun v s=>match c with
  | .none | .bool _=>.ok (.bool (decide (v = c) != n)) s
  | _=>.stuck
 | .tup es,l,s=>(evL P C es l s).bind fun vs s=>if vs.length ≤ sizeMax then .ok (.tup vs) s else .stuck
 | .lst es,l,s=>(evL P C es l s).bind fun vs s=>if vs.length ≤ sizeMax then .ok (.lst vs) s else .stuck
 | .lstM k es,l,s=>(evL P C es l s).bind fun vs s=>if vs.length ≤ sizeMax then .ok (.ref (k,s.cnt k)) (s.new k (.list vs)) else .stuck
 | .dictM k ks es,l,s=>(evL P C es l s).bind fun vs s=>if ks.length = vs.length ∧ ks.length ≤ 15 ∧ ks.Nodup then
   .ok (.ref (k,s.cnt k)) (s.new k (.dict ((ks.zip vs).map fun p=>(.str p.1,p.2)))) else .stuck
 | .sub a b,l,s=>(ev P C a l s).bind fun x s=>(ev P C b l s).bind fun y s=>getItem x y s
 | .slice a lo hi,l,s=>(ev P C a l s).bind fun x s=>(evO P C lo l s).bind fun y s=>(evO P C hi l s).bind fun z s=>getSlice x y z s
 | .attr a i,l,s=>(ev P C a l s).bind fun x s=>getAttr x i s
 | .call f es,l,s=>(evL P C es l s).bind fun vs s=>C f vs s
 | .meth a m es,l,s=>(ev P C a l s).bind fun x s=>match methOf P x m s with
  | some f=>(evL P C es l s).bind fun vs s=>C f (x :: vs) s
  | Option.none=>.stuck
 | .new c es,l,s=>(evL P C es l s).bind fun vs s=>makeInst P C c vs s
 | .isinst a ks,l,s=>(ev P C a l s).bind fun x s=>okB s (isKinds P s x ks)
 | .prim p es,l,s=>(evL P C es l s).bind fun vs s=>prim p vs s
 | .listM k a,l,s=>(ev P C a l s).bind fun x s=>match seqOf s x with
  | some (_,vs)=>.ok (.ref (k,s.cnt k)) (s.new k (.list vs))
  | Option.none=>.stuck
 | .dictC k a,l,s=>(ev P C a l s).bind fun x s=>match x with
  | .ref r=>match s.heap r with
   | some (.dict d)=>if d.length ≤ 1000 then .ok (.ref (k,s.cnt k)) (s.new k (.dict d)) else .stuck
   | _=>.stuck
  | _=>.stuck
 | .bm m a es,l,s=>(ev P C a l s).bind fun x s=>if bmOk m x s then (evL P C es l s).bind fun vs s=>bmeth m x vs s else .stuck
 | .comp M slot range it cond elt,l,s=>(ev P C it l s).bind fun src s=>match itemsOf s range src with
  | some xs=>(compLoop s range src slot (evC P C cond) (ev P C elt) l [] xs s).bind fun vs s=>match M with
   | Option.none=>.ok (.lst vs) s
   | some k=>.ok (.ref (k,s.cnt k)) (s.new k (.list vs))
  | Option.none=>.stuck
noncomputable def evC (P:Prog) (C:Calls):Option E → Option (Loc → MS → Res V)
 | Option.none=>Option.none
 | some e=>some (ev P C e)
noncomputable def evO (P:Prog) (C:Calls):Option E → Loc → MS → Res (Option V)
 | Option.none,_,s=>.ok Option.none s
 | some e,l,s=>(ev P C e l s).bind fun v s=>.ok (some v) s
noncomputable def evL (P:Prog) (C:Calls):List E → Loc → MS → Res (List V)
 | [],_,s=>.ok [] s
 | e :: r,l,s=>(ev P C e l s).bind fun v s=>(evL P C r l s).bind fun vs s=>.ok (v :: vs) s
noncomputable def evAnd (P:Prog) (C:Calls):List E → Loc → MS → Res V
 | [],_,_=>.stuck
 | [e],l,s=>ev P C e l s
 | e :: e' :: r,l,s=>(ev P C e l s).bind fun v s=>(truth v s).bind fun b s=>if b then evAnd P C (e' :: r) l s else .ok v s
noncomputable def evOr (P:Prog) (C:Calls):List E → Loc → MS → Res V
 | [],_,_=>.stuck
 | [e],l,s=>ev P C e l s
 | e :: e' :: r,l,s=>(ev P C e l s).bind fun v s=>(truth v s).bind fun b s=>if b then .ok v s else evOr P C (e' :: r) l s
end
noncomputable def setT (P:Prog) (C:Calls) (t:T) (v:V) (l:Loc) (s:MS):Res Loc :=
 match t with
 | .loc i=>if i < l.length then .ok (l.set i (some v)) s else .stuck
 | .item a b=>(ev P C a l s).bind fun x s=>(ev P C b l s).bind fun y s=>(setItem x y v s).bind fun _ s=>.ok l s
noncomputable def setTs (P:Prog) (C:Calls):List T → List V → Loc → MS → Res Loc
 | [],[],l,s=>.ok l s
 | t :: ts,v :: vs,l,s=>(setT P C t v l s).bind fun l s=>setTs P C ts vs l s
 | _,_,_,_=>.stuck
noncomputable def unpackT (P:Prog) (C:Calls) (ts:List T) (v:V) (l:Loc) (s:MS):Res Loc :=
 match v with
 | .tup vs=>setTs P C ts vs l s
 | _=>.stuck
noncomputable def setTT (P:Prog) (C:Calls) (ts:T ⊕ List T) (v:V) (l:Loc) (s:MS):Res Loc :=
 match ts with
 | .inl t=>setT P C t v l s
 | .inr ts=>unpackT P C ts v l s
noncomputable def forOk (ts:T ⊕ List T) (range:Bool) (src:V) (s:MS):Bool :=
 match ts with
 | .inl _=>true
 | .inr _=>!range && (seqOf s src).isSome
noncomputable def forLoop (s₀:MS) (range:Bool) (src:V) (tgt:V → Loc → MS → Res Loc) (body:Loc → MS → Res (Fl × Loc)):List V → Loc → MS → Res (Fl × Loc)
 | [],l,s=>if stays s₀ s range src then .ok (.next,l) s else .stuck
 | x :: r,l,s =>
  if stays s₀ s range src then
   (tgt x l s).bnd fun l s=>(body l s).bind fun p s=>match p.1 with
    | .next=>forLoop s₀ range src tgt body r p.2 s
    | .ret v=>.ok (.ret v,p.2) s
  else .stuck
theorem forLoop_nil {s₀:MS} {range:Bool} {src:V} {tgt:V → Loc → MS → Res Loc} {body:Loc → MS → Res (Fl × Loc)} {l:Loc} {s:MS}:forLoop s₀ range src tgt body [] l s = if stays s₀ s range src then .ok (.next,l) s else .stuck:=rfl
theorem forLoop_cons {s₀:MS} {range:Bool} {src x:V} {r:List V} {tgt:V → Loc → MS → Res Loc} {body:Loc → MS → Res (Fl × Loc)} {l:Loc} {s:MS}:forLoop s₀ range src tgt body (x :: r) l s = if stays s₀ s range src then
   (tgt x l s).bnd fun l s=>(body l s).bind fun p s=>match p.1 with
    | .next=>forLoop s₀ range src tgt body r p.2 s
    | .ret v=>.ok (.ret v,p.2) s
  else .stuck:=rfl
mutual
noncomputable def ex (P:Prog) (C:Calls) (n:Nat):S → Loc → MS → Res (Fl × Loc)
 | .expr e,l,s=>(ev P C e l s).bnd fun _ s=>.ok (.next,l) s
 | .assign i e,l,s=>(ev P C e l s).bnd fun v s=>if i < l.length then .ok (.next,l.set i (some v)) s else .stuck
 | .setattr a i e,l,s=>(ev P C e l s).bnd fun v s=>(ev P C a l s).bnd fun x s=>(setAttr x i v s).bnd fun _ s=>.ok (.next,l) s
 | .setitem a b e,l,s=>(ev P C e l s).bnd fun v s=>(ev P C a l s).bnd fun x s=>(ev P C b l s).bnd fun y s=>(setItem x y v s).bnd fun _ s=>.ok (.next,l) s
 | .unpack ts e,l,s=>(ev P C e l s).bnd fun v s=>(unpackT P C ts v l s).bnd fun l s=>.ok (.next,l) s
 | .ite c b1 b2,l,s=>(ev P C c l s).bnd fun v s=>(truth v s).bnd fun b s=>if b then exs P C n b1 l s else exs P C n b2 l s
 | .for_ ts range it body,l,s=>(ev P C it l s).bnd fun src s=>match itemsOf s range src with
  | some xs=>if forOk ts range src s then forLoop s range src (setTT P C ts) (exs P C n body) xs l s else .stuck
  | Option.none=>.stuck
 | .ret e,l,s=>match e with
  | some e=>(ev P C e l s).bnd fun v s=>.ok (.ret v,l) s
  | Option.none=>.ok (.ret .none,l) s
 | .raise c,_,s=>.exc c s
noncomputable def exs (P:Prog) (C:Calls) (n:Nat):List S → Loc → MS → Res (Fl × Loc)
 | [],l,s=>.ok (.next,l) s
 | st :: r,l,s=>(ex P C n st l s).bind fun p s=>match p.1 with
  | .next=>exs P C n r p.2 s
  | .ret v=>.ok (.ret v,p.2) s
noncomputable def exH (P:Prog) (C:Calls) (n:Nat):List (Nat × Option Nat × List S) → Nat → Loc → MS → Res (Fl × Loc)
 | [],c,_,s=>.exc c s
 | (k,x,b) :: r,c,l,s=>if (P.excBase c).contains k then
   (exs P C n b (match x with | some i=>l.set i (some (.exc c)) | Option.none=>l) s).bind fun p s =>
    .ok (p.1,match x with | some i=>p.2.set i Option.none | Option.none=>p.2) s
  else exH P C n r c l s
end
noncomputable def run (P:Prog):Nat → Calls
 | 0,_,_,_=>.stuck
 | n + 1,f,vs,s=>match P.fns f with
  | some fn=>if vs.length = fn.np then
    (exs P (run P n) n fn.body (vs.map some ++ List.replicate (fn.names.length - fn.np) Option.none) s).bind fun p s=>.ok (match p.1 with | .ret v=>v | .next=>.none) s
   else .stuck
  | Option.none=>.stuck
theorem ev_loc (P:Prog) (C:Calls):∀ i l s,ev P C (.loc i) l s = match l[i]? with
  | some (some v)=>.ok v s
  | _=>.stuck:=by intros; rfl
theorem ev_neg (P:Prog) (C:Calls):∀ a l s,ev P C (.neg a) l s = (ev P C a l s).bind fun v s=>match v with
  | .int i=>.ok (.int (-i)) s
  | _=>.stuck:=by intros; rfl
theorem ev_not (P:Prog) (C:Calls):∀ a l s,ev P C (.not a) l s = (ev P C a l s).bind fun v s=>(truth v s).bind fun b s=>.ok (.bool (!b)) s:=by intros; rfl
theorem ev_and (P:Prog) (C:Calls):∀ es l s,ev P C (.and es) l s = evAnd P C es l s:=by intros; rfl
theorem ev_or (P:Prog) (C:Calls):∀ es l s,ev P C (.or es) l s = evOr P C es l s:=by intros; rfl
theorem ev_bin (P:Prog) (C:Calls):∀ o a b l s,ev P C (.bin o a b) l s = (ev P C a l s).bind fun x s=>(ev P C b l s).bind fun y s=>binOp o x y s:=by intros; rfl
theorem ev_cmp (P:Prog) (C:Calls):∀ a o b l s,ev P C (.cmp a o b) l s = (ev P C a l s).bind fun x s=>(ev P C b l s).bind fun y s=>cmpOp o x y s:=by intros; rfl
theorem ev_cmp2 (P:Prog) (C:Calls):∀ a o b o2 c l s,ev P C (.cmp2 a o b o2 c) l s = (ev P C a l s).bind fun x s=>(ev P C b l s).bind fun y s=>(cmpOp o x y s).bind fun v s=>(truth v s).bind fun t s =>
   if t then (ev P C c l s).bind fun z s=>cmpOp o2 y z s else .ok (.bool false) s:=by intros; rfl
theorem ev_isC (P:Prog) (C:Calls):∀ n a c l s,ev P C (.isC n a c) l s = (ev P C a l s).bind fun v s=>match c with
  | .none | .bool _=>.ok (.bool (decide (v = c) != n)) s
  | _=>.stuck:=by intros; rfl
theorem ev_tup (P:Prog) (C:Calls):∀ es l s,ev P C (.tup es) l s = (evL P C es l s).bind fun vs s=>if vs.length ≤ sizeMax then .ok (.tup vs) s else .stuck:=by intros; rfl
theorem ev_lst (P:Prog) (C:Calls):∀ es l s,ev P C (.lst es) l s = (evL P C es l s).bind fun vs s=>if vs.length ≤ sizeMax then .ok (.lst vs) s else .stuck:=by intros; rfl
theorem ev_lstM (P:Prog) (C:Calls):∀ k es l s,ev P C (.lstM k es) l s = (evL P C es l s).bind fun vs s=>if vs.length ≤ sizeMax then .ok (.ref (k,s.cnt k)) (s.new k (.list vs)) else .stuck:=by intros; rfl
theorem ev_dictM (P:Prog) (C:Calls):∀ k ks es l s,ev P C (.dictM k ks es) l s = (evL P C es l s).bind fun vs s=>if ks.length = vs.length ∧ ks.length ≤ 15 ∧ ks.Nodup then
   .ok (.ref (k,s.cnt k)) (s.new k (.dict ((ks.zip vs).map fun p=>(.str p.1,p.2)))) else .stuck:=by intros; rfl
theorem ev_sub (P:Prog) (C:Calls):∀ a b l s,ev P C (.sub a b) l s = (ev P C a l s).bind fun x s=>(ev P C b l s).bind fun y s=>getItem x y s:=by intros; rfl
theorem ev_slice (P:Prog) (C:Calls):∀ a lo hi l s,ev P C (.slice a lo hi) l s = (ev P C a l s).bind fun x s=>(evO P C lo l s).bind fun y s=>(evO P C hi l s).bind fun z s=>getSlice x y z s:=by intros; rfl
theorem ev_attr (P:Prog) (C:Calls):∀ a i l s,ev P C (.attr a i) l s = (ev P C a l s).bind fun x s=>getAttr x i s:=by intros; rfl
theorem ev_call (P:Prog) (C:Calls):∀ f es l s,ev P C (.call f es) l s = (evL P C es l s).bind fun vs s=>C f vs s:=by intros; rfl
theorem ev_meth (P:Prog) (C:Calls):∀ a m es l s,ev P C (.meth a m es) l s = (ev P C a l s).bind fun x s=>match methOf P x m s with
  | some f=>(evL P C es l s).bind fun vs s=>C f (x :: vs) s
  | Option.none=>.stuck:=by intros; rfl
theorem ev_new (P:Prog) (C:Calls):∀ c es l s,ev P C (.new c es) l s = (evL P C es l s).bind fun vs s=>makeInst P C c vs s:=by intros; rfl
theorem ev_isinst (P:Prog) (C:Calls):∀ a ks l s,ev P C (.isinst a ks) l s = (ev P C a l s).bind fun x s=>okB s (isKinds P s x ks):=by intros; rfl
theorem ev_prim (P:Prog) (C:Calls):∀ p es l s,ev P C (.prim p es) l s = (evL P C es l s).bind fun vs s=>prim p vs s:=by intros; rfl
theorem ev_listM (P:Prog) (C:Calls):∀ k a l s,ev P C (.listM k a) l s = (ev P C a l s).bind fun x s=>match seqOf s x with
  | some (_,vs)=>.ok (.ref (k,s.cnt k)) (s.new k (.list vs))
  | Option.none=>.stuck:=by intros; rfl
theorem ev_dictC (P:Prog) (C:Calls):∀ k a l s,ev P C (.dictC k a) l s = (ev P C a l s).bind fun x s=>match x with
  | .ref r=>match s.heap r with
   | some (.dict d)=>if d.length ≤ 1000 then .ok (.ref (k,s.cnt k)) (s.new k (.dict d)) else .stuck
   | _=>.stuck
  | _=>.stuck:=by intros; rfl
theorem ev_bm (P:Prog) (C:Calls):∀ m a es l s,ev P C (.bm m a es) l s = (ev P C a l s).bind fun x s=>if bmOk m x s then (evL P C es l s).bind fun vs s=>bmeth m x vs s else .stuck:=by intros; rfl
theorem ev_comp (P:Prog) (C:Calls):∀ M slot range it cond elt l s,ev P C (.comp M slot range it cond elt) l s = (ev P C it l s).bind fun src s=>match itemsOf s range src with
  | some xs=>(compLoop s range src slot (evC P C cond) (ev P C elt) l [] xs s).bind fun vs s=>match M with
   | Option.none=>.ok (.lst vs) s
   | some k=>.ok (.ref (k,s.cnt k)) (s.new k (.list vs))
  | Option.none=>.stuck:=by intros; rfl
theorem evO_none (P:Prog) (C:Calls):∀ l s,evO P C Option.none l s = .ok Option.none s:=by intros; rfl
theorem evO_some (P:Prog) (C:Calls):∀ e l s,evO P C (some e) l s = (ev P C e l s).bind fun v s=>.ok (some v) s:=by intros; rfl
theorem evL_nil (P:Prog) (C:Calls):∀ l s,evL P C [] l s = .ok [] s:=by intros; rfl
theorem evL_cons (P:Prog) (C:Calls):∀ e r l s,evL P C (e :: r) l s = (ev P C e l s).bind fun v s=>(evL P C r l s).bind fun vs s=>.ok (v :: vs) s:=by intros; rfl
theorem evAnd_nil (P:Prog) (C:Calls):∀ l s,evAnd P C [] l s = .stuck:=by intros; rfl
theorem evAnd_one (P:Prog) (C:Calls):∀ e l s,evAnd P C [e] l s = ev P C e l s:=by intros; rfl
theorem evAnd_cons (P:Prog) (C:Calls):∀ e e' r l s,evAnd P C (e :: e' :: r) l s = (ev P C e l s).bind fun v s=>(truth v s).bind fun b s=>if b then evAnd P C (e' :: r) l s else .ok v s:=by intros; rfl
theorem evOr_nil (P:Prog) (C:Calls):∀ l s,evOr P C [] l s = .stuck:=by intros; rfl
theorem evOr_one (P:Prog) (C:Calls):∀ e l s,evOr P C [e] l s = ev P C e l s:=by intros; rfl
theorem evOr_cons (P:Prog) (C:Calls):∀ e e' r l s,evOr P C (e :: e' :: r) l s = (ev P C e l s).bind fun v s=>(truth v s).bind fun b s=>if b then .ok v s else evOr P C (e' :: r) l s:=by intros; rfl
theorem ex_expr (P:Prog) (C:Calls) (n:Nat):∀ e l s,ex P C n (.expr e) l s = (ev P C e l s).bnd fun _ s=>.ok (.next,l) s:=by intros; rfl
theorem ex_assign (P:Prog) (C:Calls) (n:Nat):∀ i e l s,ex P C n (.assign i e) l s = (ev P C e l s).bnd fun v s=>if i < l.length then .ok (.next,l.set i (some v)) s else .stuck:=by intros; rfl
theorem ex_setattr (P:Prog) (C:Calls) (n:Nat):∀ a i e l s,ex P C n (.setattr a i e) l s = (ev P C e l s).bnd fun v s=>(ev P C a l s).bnd fun x s=>(setAttr x i v s).bnd fun _ s=>.ok (.next,l) s:=by intros; rfl
theorem ex_setitem (P:Prog) (C:Calls) (n:Nat):∀ a b e l s,ex P C n (.setitem a b e) l s = (ev P C e l s).bnd fun v s=>(ev P C a l s).bnd fun x s=>(ev P C b l s).bnd fun y s=>(setItem x y v s).bnd fun _ s=>.ok (.next,l) s:=by intros; rfl
theorem ex_unpack (P:Prog) (C:Calls) (n:Nat):∀ ts e l s,ex P C n (.unpack ts e) l s = (ev P C e l s).bnd fun v s=>(unpackT P C ts v l s).bnd fun l s=>.ok (.next,l) s:=by intros; rfl
theorem ex_ite (P:Prog) (C:Calls) (n:Nat):∀ c b1 b2 l s,ex P C n (.ite c b1 b2) l s = (ev P C c l s).bnd fun v s=>(truth v s).bnd fun b s=>if b then exs P C n b1 l s else exs P C n b2 l s:=by intros; rfl
theorem ex_for (P:Prog) (C:Calls) (n:Nat):∀ ts range it body l s,ex P C n (.for_ ts range it body) l s = (ev P C it l s).bnd fun src s=>match itemsOf s range src with
  | some xs=>if forOk ts range src s then forLoop s range src (setTT P C ts) (exs P C n body) xs l s else .stuck
  | Option.none=>.stuck:=by intros; rfl
theorem ex_ret (P:Prog) (C:Calls) (n:Nat):∀ e l s,ex P C n (.ret e) l s = match e with
  | some e=>(ev P C e l s).bnd fun v s=>.ok (.ret v,l) s
  | Option.none=>.ok (.ret .none,l) s:=by intros; rfl
theorem ex_raise (P:Prog) (C:Calls) (n:Nat):∀ c l s,ex P C n (.raise c) l s = .exc c s:=by intros; rfl
theorem exs_nil (P:Prog) (C:Calls) (n:Nat):∀ l s,exs P C n [] l s = .ok (.next,l) s:=by intros; rfl
theorem exs_cons (P:Prog) (C:Calls) (n:Nat):∀ st r l s,exs P C n (st :: r) l s = (ex P C n st l s).bind fun p s=>match p.1 with
  | .next=>exs P C n r p.2 s
  | .ret v=>.ok (.ret v,p.2) s:=by intros; rfl
theorem byQ {A:Prop} (h:∀ Q:Prop,(A → Q) → Q):A:=h A id
end Mine
end
section
namespace Mine
open PySem PySem.W PyProof.Rows
set_option genCtorIdx false in
structure Tie where
 ρ:Lbl → Option Addr
 δ:Lbl → Option Addr
 pv:Addr → Prop
 wr:Nat
 st:List Env
noncomputable def Tie.Own (t:Tie) (a:Addr):Prop:=∃ l,t.ρ l = some a ∨ t.δ l = some a
noncomputable def Tie.Fr (t:Tie) (a:Addr):Prop:=t.pv a ∧ ∃ e,e ∈ t.st ∧ e.frame = some a
noncomputable def Tie.Avoid (t:Tie) (a:Addr):Prop:=t.Own a ∨ t.pv a
set_option genCtorIdx false in
structure Tie.Le (t t':Tie):Prop where
 ρ:∀ l a,t.ρ l = some a → t'.ρ l = some a
 δ:∀ l a,t.δ l = some a → t'.δ l = some a
 pv:t'.pv = t.pv
 wr:t.wr ≤ t'.wr
 st:t'.st = t.st
theorem Tie.Le.refl (t:Tie):t.Le t:=⟨fun _ _ e=>e,fun _ _ e=>e,rfl,Nat.le_refl _,rfl⟩
theorem Tie.Le.fr {t t':Tie} (x:t.Le t') {a:Addr} (f:t'.Fr a):t.Fr a:=⟨x.pv ▸ f.1,x.st ▸ f.2⟩
theorem Tie.Le.fr' {t t':Tie} (x:t.Le t') {a:Addr} (f:t.Fr a):t'.Fr a:=⟨x.pv ▸ f.1,x.st ▸ f.2⟩
theorem Tie.Le.trans {t t' t'':Tie} (x:t.Le t') (y:t'.Le t''):t.Le t'':=⟨fun l a e=>y.ρ l a (x.ρ l a e),fun l a e=>y.δ l a (x.δ l a e),y.pv.trans x.pv,Nat.le_trans x.wr y.wr,y.st.trans x.st⟩
theorem Tie.Le.own {t t':Tie} (x:t.Le t') {a:Addr} (o:t.Own a):t'.Own a:=by
 obtain ⟨l,e | e⟩:=o
 ·exact ⟨l,.inl (x.ρ l a e)⟩
 ·exact ⟨l,.inr (x.δ l a e)⟩
noncomputable def PL (h:Heap) (a:Addr) (vs:Array Value):Prop:=∃ n,h.get? a = some { cls:=.type "list",data:=.seq vs n }
noncomputable def PT (h:Heap) (a:Addr) (vs:Array Value):Prop:=∃ n,h.get? a = some { cls:=.type "tuple",data:=.seq vs n }
theorem PL.isList {h:Heap} {a:Addr} {vs:Array Value} (x:PL h a vs):h.IsList a vs:=let ⟨n,e⟩:=x; ⟨_,e,rfl,n,rfl⟩
theorem PT.isTuple {h:Heap} {a:Addr} {vs:Array Value} (x:PT h a vs):h.IsTuple a vs:=let ⟨n,e⟩:=x; ⟨_,e,rfl,n,rfl⟩
theorem PT.isTup {h:Heap} {a:Addr} {vs:Array Value} (x:PT h a vs):IsTup h a vs:=let ⟨n,e⟩:=x; ⟨_,e,rfl,n,rfl⟩
mutual
noncomputable def VRel (t:Tie) (h:Heap):V → Value → Prop
 | .none,v=>v = .none
 | .bool b,v=>v = .bool b
 | .int i,v=>∃ k,v = .int i k
 | .str x,v=>∃ k,v = .str (Str.mk x.toArray) k
 | .tup l,v=>∃ a vs,v = .ref a ∧ PT h a vs ∧ ¬ t.Avoid a ∧ l.length ≤ sizeMax ∧ VRels t h l vs.toList
 | .lst l,v=>∃ a vs,v = .ref a ∧ PL h a vs ∧ ¬ t.Avoid a ∧ l.length ≤ sizeMax ∧ VRels t h l vs.toList
 | .ref l,v=>∃ a,v = .ref a ∧ t.ρ l = some a
 | .exc c,v=>∃ e o,v = .ref e ∧ h.get? e = some o ∧ o.cls = .ref c ∧ ¬ t.Avoid e
noncomputable def VRels (t:Tie) (h:Heap):List V → List Value → Prop
 | [],vs=>vs = []
 | x :: l,vs=>∃ v r,vs = v :: r ∧ VRel t h x v ∧ VRels t h l r
end
set_option genCtorIdx false in
structure Step (X:Addr → Prop) (t t':Tie) (s s':Shared):Prop where
 le:t.Le t'
 keepW:∀ a o,s.heap.get? a = some o → (t.Own a → t'.wr = t.wr) → ¬ X a → ¬ t.Fr a → s'.heap.get? a = some o
 slots:∀ a o,s.heap.get? a = some o → ¬ t.Own a → ¬ X a → t.Fr a → ∃ sl,s'.heap.get? a = some { o with slots:=sl }
 new:∀ a,t'.Own a → t.Own a ∨ s.heap.get? a = none
 live:∀ a o,s.heap.get? a = some o → (s'.heap.get? a).isSome = true
 gens:s'.gens = s.gens
 os:s'.os = s.os
theorem Step.refl (X:Addr → Prop) (t:Tie) (s:Shared):Step X t t s s:=⟨.refl t,fun _ _ e _ _ _=>e,fun _ o e _ _ _=>⟨o.slots,e⟩,fun _ o=>.inl o,fun _ _ e=>by rw [e]; rfl,rfl,rfl⟩
theorem Step.keep {X:Addr → Prop} {t t':Tie} {s s':Shared} (x:Step X t t' s s') (a:Addr) (o:Obj) (e:s.heap.get? a = some o) (n:¬ t.Own a) (nx:¬ X a) (nf:¬ t.Fr a):s'.heap.get? a = some o:=x.keepW a o e (fun q=>(n q).elim) nx nf
theorem Step.trans {X:Addr → Prop} {t t' t'':Tie} {s s' s'':Shared} (x:Step X t t' s s') (y:Step X t' t'' s' s''):Step X t t'' s s'' where
 le:=x.le.trans y.le
 keepW a o e n nx nf:=by
  have sq:t.Own a → t'.wr = t.wr ∧ t''.wr = t'.wr:=fun q=>by have:=n q; have:=x.le.wr; have:=y.le.wr; lia
  exact y.keepW a o (x.keepW a o e (fun q=>(sq q).1) nx nf) (fun q=>(x.new a q).elim (fun q=>(sq q).2) fun z=>by rw [e] at z; cases z) nx fun q=>nf (x.le.fr q)
 slots a o e n nx f:=by
  obtain ⟨sl,e1⟩:=x.slots a o e n nx f
  obtain ⟨sl2,e2⟩:=y.slots a _ e1 (fun q=>(x.new a q).elim n fun z=>by rw [e] at z; cases z) nx (x.le.fr' f)
  exact ⟨sl2,e2⟩
 new a o:=(y.new a o).elim (x.new a) fun z=>by
  cases q:s.heap.get? a with
  | none=>exact .inr rfl
  | some ob =>
   have:=x.live a ob q
   rw [z] at this; exact no_ft this
 live a o e:=by
  have:=x.live a o e
  obtain ⟨o',e'⟩:=Option.isSome_iff_exists.mp this
  exact y.live a o' e'
 gens:=y.gens.trans x.gens
 os:=y.os.trans x.os
theorem Step.mono {X Y:Addr → Prop} {t t':Tie} {s s':Shared} (x:Step X t t' s s') (xy:∀ a,X a → Y a):Step Y t t' s s':=⟨x.le,fun a o e n ny=>x.keepW a o e n fun q=>ny (xy a q),fun a o e n ny=>x.slots a o e n fun q=>ny (xy a q),x.new,x.live,x.gens,x.os⟩
noncomputable def noX:Addr → Prop:=fun _=>False
mutual
theorem VRel.map {t t':Tie} {h h':Heap} (hρ:∀ l a,t.ρ l = some a → t'.ρ l = some a) (k:∀ a o,¬ t.Avoid a → h.get? a = some o → h'.get? a = some o ∧ ¬ t'.Avoid a):∀ (x:V) {v:Value},VRel t h x v → VRel t' h' x v
 | .none,_,e=>e
 | .bool _,_,e=>e
 | .int _,_,e=>e
 | .str _,_,e=>e
 | .tup l,_,⟨a,vs,e,⟨n,ho⟩,na,sz,r⟩=>⟨a,vs,e,⟨n,(k a _ na ho).1⟩,(k a _ na ho).2,sz,VRels.map hρ k l r⟩
 | .lst l,_,⟨a,vs,e,⟨n,ho⟩,na,sz,r⟩=>⟨a,vs,e,⟨n,(k a _ na ho).1⟩,(k a _ na ho).2,sz,VRels.map hρ k l r⟩
 | .ref l,_,⟨a,e,r⟩=>⟨a,e,hρ l a r⟩
 | .exc _,_,⟨e,o,h1,h2,h3,h4⟩=>⟨e,o,h1,(k e o h4 h2).1,h3,(k e o h4 h2).2⟩
theorem VRels.map {t t':Tie} {h h':Heap} (hρ:∀ l a,t.ρ l = some a → t'.ρ l = some a) (k:∀ a o,¬ t.Avoid a → h.get? a = some o → h'.get? a = some o ∧ ¬ t'.Avoid a):∀ (l:List V) {vs:List Value},VRels t h l vs → VRels t' h' l vs
 | [],_,e=>e
 | x :: l,_,⟨v,r,e,a,b⟩=>⟨v,r,e,VRel.map hρ k x a,VRels.map hρ k l b⟩
end
theorem Step.val {X:Addr → Prop} {t t':Tie} {σ σ':Shared} (s:Step X t t' σ σ') (xp:∀ a,X a → t.pv a) (a:Addr) (o:Obj) (na:¬ t.Avoid a) (ho:σ.heap.get? a = some o):σ'.heap.get? a = some o ∧ ¬ t'.Avoid a :=
 ⟨s.keep a o ho (fun q=>na (.inl q)) (fun q=>na (.inr (xp a q))) (fun q=>na (.inr q.1)),fun q=>q.elim (fun q=>(s.new a q).elim (fun q=>na (.inl q)) fun z=>by rw [ho] at z; cases z) (fun q=>na (.inr (by rw [s.le.pv] at q; exact q)))⟩
theorem VRel.step {X:Addr → Prop} {t t':Tie} {σ σ':Shared} (s:Step X t t' σ σ') (xp:∀ a,X a → t.pv a) (x:V) {v:Value} (r:VRel t σ.heap x v):VRel t' σ'.heap x v:=VRel.map s.le.ρ (s.val xp) x r
theorem VRels.step {X:Addr → Prop} {t t':Tie} {σ σ':Shared} (s:Step X t t' σ σ') (xp:∀ a,X a → t.pv a) (l:List V) {vs:List Value} (r:VRels t σ.heap l vs):VRels t' σ'.heap l vs:=VRels.map s.le.ρ (s.val xp) l r
noncomputable def Tie.hideS (t:Tie) (P:Addr → Prop) (l:List Env):Tie:={ t with pv:=fun a=>t.pv a ∨ P a,st:=l }
noncomputable abbrev Tie.hide (t:Tie) (P:Addr → Prop):Tie:=t.hideS P t.st
theorem Tie.hid {t:Tie} {h:Heap} {P:Addr → Prop} {l:List Env} (np:∀ a,P a → h.get? a = none) (a:Addr) (o:Obj) (na:¬ t.Avoid a) (ho:h.get? a = some o):h.get? a = some o ∧ ¬ (t.hideS P l).Avoid a :=
 ⟨ho,fun q=>Or.elim q (fun q=>na (.inl q)) fun q=>Or.elim q (fun q=>na (.inr q)) fun q=>absurd ((np a q).symm.trans ho) nofun⟩
theorem VRel.hide {t:Tie} {h:Heap} {P:Addr → Prop} {l:List Env} (np:∀ a,P a → h.get? a = none) (x:V) {v:Value} (r:VRel t h x v):VRel (t.hideS P l) h x v:=VRel.map (t:=t) (t':=t.hideS P l) (fun _ _ e=>e) (Tie.hid np) x r
theorem VRels.hide {t:Tie} {h:Heap} {P:Addr → Prop} {k:List Env} (np:∀ a,P a → h.get? a = none) (l:List V) {vs:List Value} (r:VRels t h l vs):VRels (t.hideS P k) h l vs:=VRels.map (t:=t) (t':=t.hideS P k) (fun _ _ e=>e) (Tie.hid np) l r
theorem VRels.length {t:Tie} {h:Heap}:∀ {l:List V} {vs:List Value},VRels t h l vs → vs.length = l.length
 | [],_,e=>by cases e; rfl
 | _ :: l,_,⟨v,r,e,_,b⟩=>by subst e; simp [VRels.length b]
theorem VRels.append {t:Tie} {h:Heap}:∀ {l m:List V} {vs ws:List Value},VRels t h l vs → VRels t h m ws → VRels t h (l ++ m) (vs ++ ws)
 | [],_,_,_,e,b=>by cases e; exact b
 | _ :: _,_,_,_,⟨v,r,e,a,c⟩,b=>by subst e; exact ⟨v,_,rfl,a,VRels.append c b⟩
theorem VRels.get {t:Tie} {h:Heap}:∀ {l:List V} {vs:List Value} {i:Nat} {x:V},VRels t h l vs → l[i]? = some x → ∃ v,vs[i]? = some v ∧ VRel t h x v
 | x :: l,_,0,_,⟨v,r,e,a,b⟩,q=>by subst e; cases q; exact ⟨v,rfl,a⟩
 | x :: l,_,i + 1,_,⟨v,r,e,a,b⟩,q=>by subst e; exact VRels.get (l:=l) (vs:=r) b q
theorem VRels.take {t:Tie} {h:Heap}:∀ {l:List V} {vs:List Value} (n:Nat),VRels t h l vs → VRels t h (l.take n) (vs.take n)
 | [],_,n,e=>by cases e; simp [VRels]
 | x :: l,_,0,_=>rfl
 | x :: l,_,n + 1,⟨v,r,e,a,b⟩=>by subst e; exact ⟨v,_,rfl,a,VRels.take n b⟩
theorem VRels.drop {t:Tie} {h:Heap}:∀ {l:List V} {vs:List Value} (n:Nat),VRels t h l vs → VRels t h (l.drop n) (vs.drop n)
 | [],_,n,e=>by cases e; simp [VRels]
 | x :: l,vs,0,r=>r
 | x :: l,_,n + 1,⟨v,r,e,a,b⟩=>by subst e; exact VRels.drop n b
theorem VRels.set {t:Tie} {h:Heap}:∀ {l:List V} {vs:List Value} (i:Nat) {x:V} {v:Value},VRels t h l vs → VRel t h x v → VRels t h (l.set i x) (vs.set i v)
 | [],_,i,_,_,e,_=>by cases e; simp [VRels]
 | y :: l,_,0,_,_,⟨v,r,e,a,b⟩,q=>by subst e; exact ⟨_,_,rfl,q,b⟩
 | y :: l,_,i + 1,_,_,⟨v,r,e,a,b⟩,q=>by subst e; exact ⟨v,_,rfl,a,VRels.set i b q⟩
theorem VRels.eraseIdx {t:Tie} {h:Heap}:∀ {l:List V} {vs:List Value} (i:Nat),VRels t h l vs → VRels t h (l.eraseIdx i) (vs.eraseIdx i)
 | [],_,i,e=>by cases e; simp [VRels]
 | y :: l,_,0,⟨v,r,e,a,b⟩=>by subst e; exact b
 | y :: l,_,i + 1,⟨v,r,e,a,b⟩=>by subst e; exact ⟨v,_,rfl,a,VRels.eraseIdx i b⟩
end Mine
end
section
namespace Mine
end Mine
end
section
namespace Mine
open PySem PySem.W PyProof.Rows
set_option genCtorIdx false in
structure Gd where
 prog:Program
 w:World
 K:Frag
 mg:PySem.Str → Option Value
 mb:PySem.Str → Option Value
 h₀:Heap
 P:Prog
 fa:Nat → Option Addr
 ca:Nat → Option Addr
 an:Nat → PySem.Str
noncomputable abbrev Gd.M (G:Gd):Model:=model G.prog G.w
noncomputable abbrev toStr (x:List Nat):PySem.Str:=Str.mk x.toArray
noncomputable def DRel (t:Tie) (h:Heap):List (V × V) → List (PySem.Str × Value) → Prop
 | [],kvs=>kvs = []
 | (k,v) :: r,kvs=>∃ x y rest,k = .str x ∧ kvs = (toStr x,y) :: rest ∧ VRel t h v y ∧ DRel t h r rest
noncomputable def ARel (G:Gd) (t:Tie) (h:Heap) (as:List (Nat × V)) (m:PySem.Str → Option Value):Prop :=
 (∀ i v,afind i as = some v → ∃ y,m (G.an i) = some y ∧ VRel t h v y) ∧ ∀ x y,m x = some y → ∃ i v,x = G.an i ∧ afind i as = some v
noncomputable def NsZ (h:Heap) (a:Addr) (m:PySem.Str → Option Value) (n:Nat):Prop :=
 ∃ o es ep,h.get? a = some o ∧ o.data = .dict es ep ∧ StrKeys es ∧ (∀ name,nsFind es name = m name) ∧ es.size ≤ n
theorem NsZ.ns {h:Heap} {a:Addr} {m:PySem.Str → Option Value} {n:Nat} (x:NsZ h a m n):h.Ns a m:=let ⟨o,es,ep,h1,h2,h3,h4,_⟩:=x; ⟨o,es,ep,h1,h2,h3,h4⟩
theorem wpAny_nsSetZ {M:Model} {A:Around} {E:Value → Shared → Prop} {s:Shared} {a:Addr} {m:PySem.Str → Option Value} {n:Nat} {name:PySem.Str} {v:Value} {Q:Unit → Shared → Prop} (hn:NsZ s.heap a m n)
  (h:∀ h',NsZ h' a (fun x=>if x = name then some v else m x) (if (m name).isSome then n else n + 1) → Heap.SameBut a s.heap h' → Q () { s with heap:=h',toks:=s.toks + 1 }) :
  wpAny M A (nsSet a name v) Q E s:=by
 obtain ⟨o,es,ep,ho,hd,hk,hm,hz⟩:=hn
 have hany:es.any (·.refKey) = false:=by
  rw [Array.any_eq_false']; intro e he; obtain ⟨n,t,h⟩:=hk e he; simp [DictEntry.refKey,h]
 unfold nsSet
 refine wpAny_bind (wpAny_bind (wpAny_askSetting (wpAny_pure (wpAny_bind (wpAny_mkText (wpAny_bind (wpAny_loadPart (s:={ s with toks:=s.toks + 1 }) ho ?_)))))))
 rw [hd]
 dsimp only
 rw [aRefKeyMayBeTheName_at,hany,Bool.and_false]
 refine wpAny_updatePart (s:={ s with toks:=s.toks + 1 }) ho ?_
 refine h _ ?_ (Heap.SameBut.update ..)
 obtain ⟨c,d,dt,sl⟩:=o
 subst hd
 have hfind:=hm name
 unfold nsFind at hfind
 rw [findBy_of_findIdx?] at hfind
 cases hi:es.findIdx? (·.key.isStr name) with
 | some i =>
  have hlt:i < es.size:=(Array.findIdx?_eq_some_iff_getElem.mp hi).1
  have hsome:(m name).isSome = true:=by
   rw [← hfind,hi]; simp [hlt]
  have hif:(if (m name).isSome = true then n else n + 1) = n:=by rw [hsome]; rfl
  rw [hif]
  refine ⟨_,_,ep,Heap.get?_update_self _ ho (by simp only [Obj.putName_eq,Obj.putNameByArray,hi]; rfl),by simp only [Obj.putName_eq,Obj.putNameByArray,hi]; rfl,hk.modify _ _,fun x=>?_,by rw [Array.size_modify]; exact hz⟩
  show _ = if x = name then some v else m x
  rw [← hm]; exact findBy_modify (fun n v=>v.isStr n) Value.isStr_inj es name x v i hi
 | none =>
  have hnone:(m name).isSome = false:=by rw [← hfind,hi]; rfl
  have hif:(if (m name).isSome = true then n else n + 1) = n + 1:=by rw [hnone]; rfl
  rw [hif]
  refine ⟨_,_,ep + 1,Heap.get?_update_self _ ho (by simp only [Obj.putName_eq,Obj.putNameByArray,hi]; rfl),by simp only [Obj.putName_eq,Obj.putNameByArray,hi]; rfl,hk.push _ _ _ _,fun x=>?_,by rw [Array.size_push]; lia⟩
  show _ = if x = name then some v else m x
  rw [← hm]
  exact findBy_push (fun n v=>v.isStr n) es name x _ _ v (fun y=>by
   show (name == y) = decide (y = name)
   by_cases q:y = name
   ·subst q; simp
   ·have:¬ name = y:=fun z=>q z.symm
    simp [q,this]) hi
noncomputable def ObjOk (G:Gd) (t:Tie) (h:Heap) (l:Lbl):MObj → Prop
 | .list xs=>∃ a vs,t.ρ l = some a ∧ PL h a vs ∧ xs.length ≤ sizeMax ∧ VRels t h xs vs.toList
 | .dict d=>∃ a kvs,t.ρ l = some a ∧ h.DictOf (strKind G.prog G.w) a kvs ∧ DRel t h d kvs
 | .tdict _=>False
 | .inst c as=>∃ a d C m,t.ρ l = some a ∧ t.δ l = some d ∧ G.ca c = some C ∧ h.get? a = some (instObj C d) ∧ NsZ h d m as.length ∧ ARel G t h as m
set_option genCtorIdx false in
structure Rel (G:Gd) (t:Tie) (st:MS) (s:Shared):Prop where
 base:∀ b o,G.h₀.get? b = some o → s.heap.get? b = some o
 apart:∀ a,t.Avoid a → G.h₀.get? a = none
 live:∀ a,t.Avoid a → (s.heap.get? a).isSome = true
 pv:∀ a,t.pv a → ¬ t.Own a
 injρ:∀ l l' a,t.ρ l = some a → t.ρ l' = some a → l = l'
 injδ:∀ l l' a,t.δ l = some a → t.δ l' = some a → l = l'
 two:∀ l l' a,t.ρ l = some a → t.δ l' = some a → False
 objs:∀ l o,st.heap l = some o → ObjOk G t s.heap l o
 cnt:∀ k i,st.cnt k ≤ i → t.ρ (k,i) = none ∧ t.δ (k,i) = none ∧ st.heap (k,i) = none
 sys:∀ l,t.ρ l ≠ some sysModules
 wr:t.wr = st.wr
theorem DRel.map {t t':Tie} {h h':Heap} (k:∀ (x:V) {v:Value},VRel t h x v → VRel t' h' x v):∀ {d:List (V × V)} {kvs:List (PySem.Str × Value)},DRel t h d kvs → DRel t' h' d kvs
 | [],_,e=>e
 | (_,v) :: _,_,⟨x,y,r,e1,e2,a,b⟩=>⟨x,y,r,e1,e2,k v a,DRel.map k b⟩
theorem DRel.step {X:Addr → Prop} {t t':Tie} {σ σ':Shared} (s:Step X t t' σ σ') (xp:∀ a,X a → t.pv a) {d:List (V × V)} {kvs:List (PySem.Str × Value)} (r:DRel t σ.heap d kvs):DRel t' σ'.heap d kvs:=DRel.map (VRel.step s xp) r
theorem ObjOk.map {G:Gd} {t t':Tie} {h h':Heap} {l:Lbl} (hρ:∀ l a,t.ρ l = some a → t'.ρ l = some a) (hδ:∀ l a,t.δ l = some a → t'.δ l = some a) (k:∀ a o,¬ t.Avoid a → h.get? a = some o → h'.get? a = some o ∧ ¬ t'.Avoid a)
  (same:∀ a o,(t.ρ l = some a ∨ t.δ l = some a) → h.get? a = some o → h'.get? a = some o) {o:MObj} (r:ObjOk G t h l o):ObjOk G t' h' l o:=by
 cases o with
 | list=>obtain ⟨a,vs,e,⟨n,ho⟩,sz,b⟩:=r; exact ⟨a,vs,hρ l a e,⟨n,same a _ (.inl e) ho⟩,sz,VRels.map hρ k _ b⟩
 | dict=>obtain ⟨a,kvs,e,⟨o,es,ep,ho,r⟩,b⟩:=r; exact ⟨a,kvs,hρ l a e,⟨o,es,ep,same a o (.inl e) ho,r⟩,DRel.map (VRel.map hρ k) b⟩
 | tdict=>exact r.elim
 | inst =>
  obtain ⟨a,d,C,m,e,f,c,ho,⟨od,es,ep,hd,r⟩,b⟩:=r
  exact ⟨a,d,C,m,hρ l a e,hδ l d f,c,same a _ (.inl e) ho,⟨od,es,ep,same d _ (.inr f) hd,r⟩,fun i v e=>let ⟨y,e1,e2⟩:=b.1 i v e; ⟨y,e1,VRel.map hρ k v e2⟩,b.2⟩
theorem ObjOk.step {G:Gd} {X:Addr → Prop} {t t':Tie} {σ σ':Shared} {l:Lbl} (s:Step X t t' σ σ') (xp:∀ a,X a → t.pv a)
  (same:∀ a o,(t.ρ l = some a ∨ t.δ l = some a) → σ.heap.get? a = some o → σ'.heap.get? a = some o) {o:MObj} (r:ObjOk G t σ.heap l o):ObjOk G t' σ'.heap l o:=ObjOk.map s.le.ρ s.le.δ (s.val xp) same r
section
variable {G:Gd} {t:Tie} {st:MS} {s:Shared}
theorem Rel.fresh (R:Rel G t st s) {a:Addr} (e:s.heap.get? a = none):¬ t.Avoid a:=fun q=>by
 have:=R.live a q; rw [e] at this; exact no_ft this
theorem Step.grow (_R:Rel G t st s) {s':Shared} (hk:∀ b o,s.heap.get? b = some o → s'.heap.get? b = some o) (hg:s'.gens = s.gens) (ho:s'.os = s.os):Step noX t t s s' :=
 ⟨.refl t,fun a o e _ _ _=>hk a o e,fun a o e _ _ _=>⟨o.slots,hk a o e⟩,fun _ o=>.inl o,fun a o e=>by rw [hk a o e]; rfl,hg,ho⟩
theorem Rel.grow (R:Rel G t st s) {s':Shared} (hk:∀ b o,s.heap.get? b = some o → s'.heap.get? b = some o) (hg:s'.gens = s.gens) (ho:s'.os = s.os):Rel G t st s' where
 base b o e:=hk b o (R.base b o e)
 apart:=R.apart
 live a q:=by obtain ⟨o,e⟩:=Option.isSome_iff_exists.mp (R.live a q); rw [hk a o e]; rfl
 pv:=R.pv
 injρ:=R.injρ
 injδ:=R.injδ
 two:=R.two
 objs l o e:=(R.objs l o e).step (Step.grow R hk hg ho) (fun _ x=>x.elim) fun a o _ e=>hk a o e
 cnt:=R.cnt
 sys:=R.sys
 wr:=R.wr
theorem Rel.toks (R:Rel G t st s) (n:Nat):Rel G t st { s with toks:=n }:=R.grow (fun _ _ e=>e) rfl rfl
theorem Step.toks (X:Addr → Prop) (t:Tie) (s:Shared) (n:Nat):Step X t t s { s with toks:=n }:=⟨.refl t,fun _ _ e _ _ _=>e,fun _ o e _ _ _=>⟨o.slots,e⟩,fun _ o=>.inl o,fun _ _ e=>by show (s.heap.get? _).isSome = true; rw [e]; rfl,rfl,rfl⟩
noncomputable def Tie.tick (t:Tie):Tie:={ t with wr:=t.wr + 1 }
theorem Step.upd {a:Addr} {h':Heap} {tk:Nat} (own:t.Own a) (hl:(h'.get? a).isSome = true) (hs:Heap.SameBut a s.heap h'):Step noX t t.tick s { s with heap:=h',toks:=tk } :=
 ⟨⟨fun _ _ e=>e,fun _ _ e=>e,rfl,Nat.le_succ _,rfl⟩,fun b o e n _ _=>(hs.2 b fun (q:b = a)=>Nat.succ_ne_self _ (n (q ▸ own))).trans e,fun b o e n _ _=>⟨o.slots,(hs.2 b fun (q:b = a)=>n (q ▸ own)).trans e⟩,fun _ o=>.inl o,fun b o e=>by
  by_cases q:b = a
  ·subst q; exact hl
  ·show (h'.get? b).isSome = true; rw [hs.2 b q,e]; rfl,rfl,rfl⟩
theorem Rel.upd (R:Rel G t st s) {l:Lbl} {a:Addr} {h':Heap} {tk:Nat} {o:MObj} (own:t.ρ l = some a ∨ t.δ l = some a) (hl:(h'.get? a).isSome = true) (hs:Heap.SameBut a s.heap h') (hn:st.heap l ≠ none)
  (ho:ObjOk G t.tick h' l o):Rel G t.tick (st.put l o) { s with heap:=h',toks:=tk } where
 base b ob e:=(hs.2 b fun (q:b = a)=>by rw [q,R.apart a (.inl ⟨l,own⟩)] at e; exact no_none e).trans (R.base b ob e)
 apart:=R.apart
 live b q:=by
  by_cases z:b = a
  ·subst z; exact hl
  ·show (h'.get? b).isSome = true; rw [hs.2 b z]; exact R.live b q
 pv:=R.pv
 injρ:=R.injρ
 injδ:=R.injδ
 two:=R.two
 objs l' o' e:=by
  unfold MS.put at e
  dsimp only at e
  by_cases z:l' = l
  ·rw [if_pos z] at e; cases e; subst z; exact ho
  ·rw [if_neg z] at e
   refine (R.objs l' o' e).step (Step.upd ⟨l,own⟩ hl hs) (fun _ x=>x.elim) fun b ob hb eb=>(hs.2 b fun (q:b = a)=>z ?_).trans eb
   subst q
   rcases hb with hb | hb <;> rcases own with ow | ow
   ·exact R.injρ l' l b hb ow
   ·exact (R.two l' l b hb ow).elim
   ·exact (R.two l l' b ow hb).elim
   ·exact R.injδ l' l b hb ow
 cnt k i e:=by
  obtain ⟨c1,c2,c3⟩:=R.cnt k i e
  refine ⟨c1,c2,?_⟩
  show (if (k,i) = l then some o else st.heap (k,i)) = none
  rw [if_neg (fun (q:(k,i) = l)=>hn (by rw [← q]; exact c3)),c3]
 sys:=R.sys
 wr:=congrArg Nat.succ R.wr
noncomputable def Tie.bind (t:Tie) (l:Lbl) (a:Addr) (d:Option Addr):Tie:={ t with ρ:=fun x=>if x = l then some a else t.ρ x,δ:=fun x=>if x = l then d else t.δ x }
theorem Step.bind {k:Nat} {a:Addr} {d:Option Addr} {s':Shared} (R:Rel G t st s) (hk:∀ b o,s.heap.get? b = some o → s'.heap.get? b = some o) (hg:s'.gens = s.gens) (ho:s'.os = s.os)
  (fa:s.heap.get? a = none) (fd:∀ x,d = some x → s.heap.get? x = none):Step noX t (t.bind (k,st.cnt k) a d) s s' where
 le:=⟨fun l b e=>by
   obtain ⟨c1,_,_⟩:=R.cnt k _ (Nat.le_refl _)
   show (if l = (k,st.cnt k) then some a else t.ρ l) = some b
   rw [if_neg (fun q=>by rw [q,c1] at e; exact no_none e)]; exact e,
  fun l b e=>by
   obtain ⟨_,c2,_⟩:=R.cnt k _ (Nat.le_refl _)
   show (if l = (k,st.cnt k) then d else t.δ l) = some b
   rw [if_neg (fun q=>by rw [q,c2] at e; exact no_none e)]; exact e,rfl,Nat.le_refl _,rfl⟩
 keepW b o e _ _ _:=hk b o e
 slots b o e _ _ _:=⟨o.slots,hk b o e⟩
 new b:=by
  rintro ⟨l,e | e⟩
  ·change (if l = (k,st.cnt k) then some a else t.ρ l) = some b at e
   split at e
   ·cases e; exact .inr fa
   ·exact .inl ⟨l,.inl e⟩
  ·change (if l = (k,st.cnt k) then d else t.δ l) = some b at e
   split at e
   ·exact .inr (fd b e)
   ·exact .inl ⟨l,.inr e⟩
 live b o e:=by rw [hk b o e]; rfl
 gens:=hg
 os:=ho
theorem Rel.bind {k:Nat} {a:Addr} {d:Option Addr} {s':Shared} {o:MObj} (R:Rel G t st s) (hk:∀ b o,s.heap.get? b = some o → s'.heap.get? b = some o) (hg:s'.gens = s.gens) (ho:s'.os = s.os)
  (fa:s.heap.get? a = none) (fd:∀ x,d = some x → s.heap.get? x = none ∧ x ≠ a ∧ (s'.heap.get? x).isSome = true) (la:(s'.heap.get? a).isSome = true) (hsys:a ≠ sysModules)
  (hO:ObjOk G (t.bind (k,st.cnt k) a d) s'.heap (k,st.cnt k) o):Rel G (t.bind (k,st.cnt k) a d) (st.new k o) s':=by
 have S:=Step.bind (k:=k) (d:=d) R hk hg ho fa fun x e=>(fd x e).1
 have c:=R.cnt k _ (Nat.le_refl _)
 have nr:∀ {l:Lbl} {b:Addr},(t.bind (k,st.cnt k) a d).ρ l = some b → (l = (k,st.cnt k) ∧ b = a) ∨ (l ≠ (k,st.cnt k) ∧ t.ρ l = some b):=fun {l b} e=>by
  change (if l = (k,st.cnt k) then some a else t.ρ l) = some b at e
  split at e
  ·rename_i q; cases e; exact .inl ⟨q,rfl⟩
  ·rename_i q; exact .inr ⟨q,e⟩
 have nd:∀ {l:Lbl} {b:Addr},(t.bind (k,st.cnt k) a d).δ l = some b → (l = (k,st.cnt k) ∧ d = some b) ∨ (l ≠ (k,st.cnt k) ∧ t.δ l = some b):=fun {l b} e=>by
  change (if l = (k,st.cnt k) then d else t.δ l) = some b at e
  split at e
  ·rename_i q; exact .inl ⟨q,e⟩
  ·rename_i q; exact .inr ⟨q,e⟩
 have na:¬ t.Avoid a:=R.fresh fa
 have nx:∀ x,d = some x → ¬ t.Avoid x:=fun x e=>R.fresh (fd x e).1
 refine ⟨fun b ob e=>hk b ob (R.base b ob e),?_,?_,?_,?_,?_,?_,?_,?_,fun l e=>by rcases nr e with ⟨_,z⟩ | ⟨_,z⟩; exact hsys z.symm; exact R.sys l z,R.wr⟩
 ·rintro b (⟨l,e | e⟩ | e)
  ·rcases nr e with ⟨_,rfl⟩ | ⟨_,e⟩
   ·cases q:G.h₀.get? b with
    | none=>rfl
    | some ob=>rw [R.base b ob q] at fa; cases fa
   ·exact R.apart b (.inl ⟨l,.inl e⟩)
  ·rcases nd e with ⟨_,e⟩ | ⟨_,e⟩
   ·cases q:G.h₀.get? b with
    | none=>rfl
    | some ob=>have:=(fd b e).1; rw [R.base b ob q] at this; cases this
   ·exact R.apart b (.inl ⟨l,.inr e⟩)
  ·exact R.apart b (.inr e)
 ·rintro b (⟨l,e | e⟩ | e)
  ·rcases nr e with ⟨_,rfl⟩ | ⟨_,e⟩
   ·exact la
   ·obtain ⟨ob,q⟩:=Option.isSome_iff_exists.mp (R.live b (.inl ⟨l,.inl e⟩)); rw [hk b ob q]; rfl
  ·rcases nd e with ⟨_,e⟩ | ⟨_,e⟩
   ·exact (fd b e).2.2
   ·obtain ⟨ob,q⟩:=Option.isSome_iff_exists.mp (R.live b (.inl ⟨l,.inr e⟩)); rw [hk b ob q]; rfl
  ·obtain ⟨ob,q⟩:=Option.isSome_iff_exists.mp (R.live b (.inr e)); rw [hk b ob q]; rfl
 ·rintro b p ⟨l,e | e⟩
  ·rcases nr e with ⟨_,rfl⟩ | ⟨_,e⟩
   ·exact na (.inr p)
   ·exact R.pv b p ⟨l,.inl e⟩
  ·rcases nd e with ⟨_,e⟩ | ⟨_,e⟩
   ·exact nx b e (.inr p)
   ·exact R.pv b p ⟨l,.inr e⟩
 ·intro l l' b e e'
  rcases nr e with ⟨q1,z1⟩ | ⟨_,e1⟩ <;> rcases nr e' with ⟨q,z⟩ | ⟨_,e2⟩
  ·exact q1.trans q.symm
  ·exact (na (.inl ⟨l',.inl (z1 ▸ e2)⟩)).elim
  ·exact (na (.inl ⟨l,.inl (z ▸ e1)⟩)).elim
  ·exact R.injρ l l' b e1 e2
 ·intro l l' b e e'
  rcases nd e with ⟨q1,z1⟩ | ⟨_,e1⟩ <;> rcases nd e' with ⟨q,z⟩ | ⟨_,e2⟩
  ·exact q1.trans q.symm
  ·exact (nx b z1 (.inl ⟨l',.inr e2⟩)).elim
  ·exact (nx b z (.inl ⟨l,.inr e1⟩)).elim
  ·exact R.injδ l l' b e1 e2
 ·intro l l' b e e'
  rcases nr e with ⟨q1,z1⟩ | ⟨_,e1⟩ <;> rcases nd e' with ⟨q,z⟩ | ⟨_,e2⟩
  ·exact (fd b z).2.1 z1
  ·exact na (.inl ⟨l',.inr (z1 ▸ e2)⟩)
  ·exact nx b z (.inl ⟨l,.inl e1⟩)
  ·exact R.two l l' b e1 e2
 ·intro l o' e
  change (if l = (k,st.cnt k) then some o else st.heap l) = some o' at e
  split at e
  ·rename_i q; cases e; subst q; exact hO
  ·exact (R.objs l o' e).step S (fun _ x=>x.elim) fun b ob _ e=>hk b ob e
 ·intro k' i e
  change (if k' = k then st.cnt k + 1 else st.cnt k') ≤ i at e
  have ne:(k',i) ≠ (k,st.cnt k):=fun q=>by
   cases q; rw [if_pos rfl] at e; lia
  have le:st.cnt k' ≤ i:=by
   by_cases q:k' = k
   ·subst q; rw [if_pos rfl] at e; lia
   ·rw [if_neg q] at e; exact e
  obtain ⟨c1,c2,c3⟩:=R.cnt k' i le
  refine ⟨?_,?_,?_⟩
  ·show (if (k',i) = (k,st.cnt k) then some a else t.ρ (k',i)) = none
   rw [if_neg ne]; exact c1
  ·show (if (k',i) = (k,st.cnt k) then d else t.δ (k',i)) = none
   rw [if_neg ne]; exact c2
  ·show (if (k',i) = (k,st.cnt k) then some o else st.heap (k',i)) = none
   rw [if_neg ne]; exact c3
end
end Mine
end
section
namespace Mine
open PySem PySem.W PyProof.Rows
set_option genCtorIdx false in
structure Names where
 fn:Nat → PySem.Str
 cls:Nat → PySem.Str
 meth:Nat → PySem.Str
 attr:Nat → PySem.Str
 exc:Nat → PySem.Str
 gi:List (PySem.Str × Int)
 gs:List (PySem.Str × List Nat)
 xs:List (PySem.Str × Nat)
 xf:Nat → Bool
 xm:Nat → Bool
 qf:Nat → Bool
noncomputable abbrev Sc:=List (PySem.Str × NameKind)
noncomputable abbrev Gam:=List (Option PySem.Str)
noncomputable def glob (sc:Sc) (x:PySem.Str):Bool:=sc.lookup x == some .globalImplicit && x != ("__debug__":PySem.Str)
noncomputable def kindName:Kind → Option PySem.Str
 | .int=>some "int"
 | .bool=>some "bool"
 | .str=>some "str"
 | .list=>some "list"
 | .tuple=>some "tuple"
 | .valueError=>some "ValueError"
 | .cls _=>none
noncomputable def chkKind (N:Names) (sc:Sc) (k:Kind) (y:PySem.Expr):Bool:=match y with
 | .Name x _=>kindName k == some x && glob sc x
 | _=>false
noncomputable def chkKinds (N:Names) (sc:Sc):List Kind → List PySem.Expr → Bool
 | [],[]=>true
 | k :: ks,e :: es=>chkKind N sc k e && chkKinds N sc ks es
 | _,_=>false
noncomputable def opOf:Bop → Operator
 | .add=>.Add | .sub=>.Sub | .mul=>.Mult | .fdiv=>.FloorDiv | .mod=>.Mod | .pow=>.Pow
noncomputable def cmpOf:Cop → CmpOp
 | .eq=>.Eq | .ne=>.NotEq | .lt=>.Lt | .le=>.LtE | .gt=>.Gt | .ge=>.GtE | .isin=>.In | .notin=>.NotIn
noncomputable def primName:Prim → PySem.Str
 | .len=>"len" | .max2=>"max" | .int1=>"int" | .sorted=>"sorted" | .tuple1=>"tuple" | .list1=>"list" | .all1=>"all"
noncomputable def bmName:Bm → PySem.Str
 | .append=>"append" | .extend=>"extend" | .pop=>"pop" | .insert=>"insert" | .count=>"count" | .get=>"get" | .join=>"join" | .upper=>"upper"
noncomputable def compSc (sc:Sc) (names:Sc):Sc:=names.map fun x=>if x.2 == .free && sc.lookup x.1 == some .cell then (x.1,.cell) else x
noncomputable def compGam (sc':Sc) (Γ:Gam) (slot:Nat) (x:PySem.Str):Gam:=(Γ.map fun y=>match y with | some n=>if sc'.lookup n == some .cell then some n else none | none=>none).set slot (some x)
noncomputable def compOk (sc:Sc) (scope:Scope) (slot:Nat) (Γ:Gam) (x:PySem.Str):Bool :=
 scope.kind == .function && decide (slot < Γ.length) && scope.names.lookup x == some .local &&
 scope.names.all (fun y=>y.2 != .cell && (y.2 != .local || scope.names.lookup y.1 == some .local) && (y.2 != .free || sc.lookup y.1 == some .cell))
noncomputable def isNot:CmpOp → Bool → Bool
 | .Is,b=>!b
 | .IsNot,b=>b
 | _,_=>false
end Mine
end
section
namespace Mine
open PySem PySem.W PyProof.Rows
set_option genCtorIdx false in
structure Dp where
 n:Nat
 q:Bool
set_option genCtorIdx false in
structure AOk (d:Dp) (A:Around):Prop where
 hd:d.q = true → A.handled = none
 dep:A.depth + 2 * d.n + 6 ≤ recursionLimit
 un:A.units + 20 * d.n + 110 ≤ cLine
set_option genCtorIdx false in
structure AC (d:Dp) (A:Around):Prop where
 hd:d.q = true → A.handled = none
 dep:A.depth + 2 * d.n + 5 ≤ recursionLimit
 un:A.units + 20 * d.n + 105 ≤ cLine
theorem AOk.ac {d:Dp} {A:Around} (h:AOk d A):AC d A:=⟨h.hd,by have:=h.dep; lia,by have:=h.un; lia⟩
set_option genCtorIdx false in
structure Stk (A:Around) (t:Tie) (h:Heap):Prop where
 fr:A.frames = some t.st
 ob:∀ e,e ∈ t.st → e.scope.kind ≠ .module ∧ ∃ L o,e.frame = some L ∧ t.pv L ∧ h.get? L = some o ∧ ∀ vs,o.data ≠ .fields vs
theorem Stk.step {G:Gd} {A:Around} {X:Addr → Prop} {t t':Tie} {st:MS} {s s':Shared} (K:Stk A t s.heap) (R:Rel G t st s) (S:Step X t t' s s') (hX:∀ a,X a → t.Fr a → ∀ o,s'.heap.get? a = some o → ∀ vs,o.data ≠ .fields vs):Stk A t' s'.heap where
 fr:=by rw [S.le.st]; exact K.fr
 ob e he:=by
  rw [S.le.st] at he
  obtain ⟨h1,L,o,h2,h3,h4,h5⟩:=K.ob e he
  refine ⟨h1,L,?_⟩
  by_cases x:X L
  ·obtain ⟨o',e'⟩:=Option.isSome_iff_exists.mp (S.live L o h4)
   exact ⟨o',h2,by rw [S.le.pv]; exact h3,e',hX L x ⟨h3,e,he,h2⟩ o' e'⟩
  ·obtain ⟨sl,e'⟩:=S.slots L o h4 (R.pv L h3) x ⟨h3,e,he,h2⟩
   exact ⟨_,h2,by rw [S.le.pv]; exact h3,e',h5⟩
theorem Stk.step0 {G:Gd} {A:Around} {t t':Tie} {st:MS} {s s':Shared} (K:Stk A t s.heap) (R:Rel G t st s) (S:Step noX t t' s s'):Stk A t' s'.heap:=K.step R S fun _ x=>x.elim
theorem Stk.fresh {A:Around} {t:Tie} {h:Heap} (K:Stk A t h) {P:Addr → Prop} {a:Addr} (np:h.get? a = none):¬ (t.hide P).Fr a:=fun f=>by
 obtain ⟨-,e,h1,h2⟩:=f
 obtain ⟨-,L,o,h3,-,h4,-⟩:=K.ob e h1
 rw [h3] at h2; cases h2
 rw [np] at h4; exact no_none h4
theorem Step.pvk {G:Gd} {X:Addr → Prop} {t t':Tie} {st:MS} {s s':Shared} (S:Step X t t' s s') (R:Rel G t st s) {a:Addr} {o:Obj} (hp:t.pv a) (nx:¬ X a) (e:s.heap.get? a = some o):∃ sl,s'.heap.get? a = some { o with slots:=sl }:=by
 by_cases f:t.Fr a
 ·exact S.slots a o e (R.pv a hp) nx f
 ·exact ⟨o.slots,S.keep a o e (R.pv a hp) nx f⟩
set_option genCtorIdx false in
structure FrOk (G:Gd) (A:Around) (t:Tie) (env:Env) (Γ:Gam) (loc:Loc) (s:Shared):Prop where
 sk:Stk A t s.heap
 fn:env.scope.kind = .function
 gl:env.globals = mainGlobals
 bl:env.builtins = builtinsNs
 pvl:t.pv env.locals
 pvc:∀ n c,env.cells.lookup n = some c → t.pv c
 apart:∀ n n' c,env.cells.lookup n = some c → env.cells.lookup n' = some c → n = n'
 ex:∃ m cm:PySem.Str → Option Value,s.heap.Ns env.locals m ∧ (∀ n c,env.cells.lookup n = some c → s.heap.IsCell c (cm n)) ∧ (∀ x,env.kindOf x = some .cell → (env.cells.lookup x).isSome = true) ∧
  ∀ (i:Nat) (x:PySem.Str) (X:V),Γ[i]? = some (some x) → loc[i]? = some (some X) → ∃ v,VRel t s.heap X v ∧ ((env.kindOf x = some .local ∧ m x = some v) ∨ (env.kindOf x = some .cell ∧ cm x = some v))
theorem FrOk.step {G:Gd} {A:Around} {t t':Tie} {env:Env} {Γ:Gam} {loc:Loc} {st:MS} {s s':Shared} (F:FrOk G A t env Γ loc s) (R:Rel G t st s) (S:Step noX t t' s s'):FrOk G A t' env Γ loc s' where
 sk:=F.sk.step0 R S
 fn:=F.fn
 gl:=F.gl
 bl:=F.bl
 pvl:=by rw [S.le.pv]; exact F.pvl
 pvc n c h:=by rw [S.le.pv]; exact F.pvc n c h
 apart:=F.apart
 ex:=by
  obtain ⟨m,cm,⟨o,es,ep,ho,r⟩,hc,hz,hs⟩:=F.ex
  obtain ⟨sl,ho'⟩:=Step.pvk S R F.pvl (fun q=>q) ho
  refine ⟨m,cm,⟨_,es,ep,ho',r⟩,fun n c e=>?_,hz,fun i x X e1 e2=>?_⟩
  ·obtain ⟨oc,h1,h2⟩:=hc n c e
   obtain ⟨sl,h1'⟩:=Step.pvk S R (F.pvc n c e) (fun q=>q) h1
   exact ⟨_,h1',h2⟩
  ·obtain ⟨v,hv,r⟩:=hs i x X e1 e2
   exact ⟨v,VRel.step S (fun _ q=>q.elim) X hv,r⟩
noncomputable def Sim (G:Gd) (A:Around) {α:Type} (t:Tie) (s:Shared) (tree:Sem α) (st':MS) (rel:Tie → Shared → α → Prop):Prop :=
 ∀ (Q:α → Shared → Prop) (E:Value → Shared → Prop),(∀ v t' s',Step noX t t' s s' → Rel G t' st' s' → rel t' s' v → Q v s') → wpAny G.M A tree Q E s
noncomputable abbrev vrel (X:V):Tie → Shared → Value → Prop:=fun t s v=>VRel t s.heap X v
noncomputable abbrev vrels (X:List V):Tie → Shared → List Value → Prop:=fun t s v=>VRels t s.heap X v
theorem Sim.ok {G:Gd} {A:Around} {t:Tie} {s:Shared} {tree:Sem Value} {X Z:V} {st st':MS} (e:Res.ok X st = .ok Z st') (h:Sim G A t s tree st (vrel X)):Sim G A t s tree st' (vrel Z):=by cases e; exact h
theorem Res.bind_ok {α β:Type} {r:Res α} {f:α → MS → Res β} {b:β} {s':MS} (e:r.bind f = .ok b s'):∃ a s,r = .ok a s ∧ f a s = .ok b s':=by
 cases r with
 | ok a s=>exact ⟨a,s,rfl,e⟩
 | exc _ _=>cases e
 | stuck=>exact no_stuck e
theorem Res.bnd_ok {α β:Type} {r:Res α} {f:α → MS → Res β} {b:β} {s':MS} (e:r.bnd f = .ok b s'):∃ a s,r = .ok a s ∧ f a s = .ok b s':=by
 cases r with
 | ok a s=>exact ⟨a,s,rfl,e⟩
 | exc _ _=>exact no_stuck e
 | stuck=>exact no_stuck e
noncomputable def CallAt (G:Gd) (C:Calls) (d:Dp) (f:Nat):Prop :=
 ∀ vs st X st',C f vs st = .ok X st' → ∀ A,AC d A → ∃ a,G.fa f = some a ∧ ∀ t s args,Stk A t s.heap → Rel G t st s → VRels t s.heap vs args → ∀ (B:Result → Shared → Prop),
  (∀ v t' s',Step noX t t' s s' → Rel G t' st' s' → VRel t' s'.heap X v → B (.ok (.ret v)) s') → codeAny G.M A (.call (.ref a) ⟨args,[]⟩) B s
noncomputable def CallsOk (G:Gd) (C:Calls) (d:Dp):Prop:=∀ f,CallAt G C d f
set_option genCtorIdx false in
structure Gd.Ok (G:Gd) (N:Names):Prop where
 K:G.K.In G.h₀
 g:G.h₀.Ns mainGlobals G.mg
 b:G.h₀.Ns builtinsNs G.mb
 bi:∀ x:PySem.Str,x ≠ "__name__" → G.mb x = bootBuiltins x
 lim:G.h₀.NoLimit
 gi:∀ x i,N.gi.contains (x,i) = true → ∃ k,G.mg x = some (.int i k)
 gs:∀ x l,N.gs.contains (x,l) = true → ∃ k,G.mg x = some (.str (toStr l) k)
 an:∀ i j,G.an i = G.an j → i = j
 attr:N.attr = G.an
 none:∀ x,x ∈ (["len","max","int","sorted","tuple","list","all","isinstance","range","dict","bool","str","ValueError"]:List PySem.Str) → G.mg x = none
noncomputable def SimE (G:Gd) (C:Calls) (d:Dp) (sc:Sc) (Γ:Gam) (e:E) (ast:PySem.Expr):Prop :=
 ∀ t st s env loc X st' A,AOk d A → env.scope.names = sc → FrOk G A t env Γ loc s → Rel G t st s → ev G.P C e loc st = .ok X st' → Sim G A t s (eval ast env) st' (vrel X)
noncomputable def SimEs (G:Gd) (C:Calls) (d:Dp) (sc:Sc) (Γ:Gam) (l:List E) (m:List PySem.Expr):Prop :=
 ∀ pos t st s env loc Xs st' A,AOk d A → env.scope.names = sc → FrOk G A t env Γ loc s → Rel G t st s → evL G.P C l loc st = .ok Xs st' → Sim G A t s (spliced (backTo pos (starEach m env))) st' (vrels Xs)
section
variable {G:Gd} {N:Names} {C:Calls} {d:Dp} {sc:Sc} {Γ:Gam}
theorem Sim.here {A:Around} {α:Type} {t:Tie} {st:MS} {s:Shared} {tree:Sem α} {rel:Tie → Shared → α → Prop} (R:Rel G t st s)
  (h:∀ (Q:α → Shared → Prop) (E:Value → Shared → Prop),(∀ v tk,rel t { s with toks:=tk } v → Q v { s with toks:=tk }) → wpAny G.M A tree Q E s):Sim G A t s tree st rel :=
 fun Q E k=>h Q E fun v tk r=>k v t _ (Step.toks _ t s tk) (R.toks tk) r
theorem VRel.flat {t:Tie} {h h':Heap} {X:V} {v:Value} (r:VRel t h X v) (e:h' = h):VRel t h' X v:=e ▸ r
theorem sim_none {k:Nat} {pos:Pos}:SimE G C d sc Γ .none (.Constant .none k pos):=by
 intro t st s env loc X st' A hA hsc F R e
 cases e
 exact Sim.here R fun Q E k=>fun _ _ _=>k .none s.toks rfl
theorem sim_bool {b:Bool} {k:Nat} {pos:Pos}:SimE G C d sc Γ (.bool b) (.Constant (.bool b) k pos):=by
 intro t st s env loc X st' A hA hsc F R e
 cases e
 exact Sim.here R fun Q E k=>fun _ _ _=>k (.bool b) s.toks rfl
theorem sim_int {i:Int} {k:Nat} {pos:Pos}:SimE G C d sc Γ (.int i) (.Constant (.int i) k pos):=by
 intro t st s env loc X st' A hA hsc F R e
 cases e
 exact Sim.here R fun Q E k=>wpAny_Constant_int (k _ _ ⟨_,rfl⟩)
theorem sim_str {x:List Nat} {k:Nat} {pos:Pos}:SimE G C d sc Γ (.str x) (.Constant (.str (toStr x)) k pos):=by
 intro t st s env loc X st' A hA hsc F R e
 cases e
 exact Sim.here R fun Q E k=>wpAny_Constant_str (k _ _ ⟨_,rfl⟩)
theorem sim_loc {i:Nat} {x:PySem.Str} {pos:Pos} (hx:Γ[i]? = some (some x)) (hd:(x == ("__debug__":PySem.Str)) = false):SimE G C d sc Γ (.loc i) (.Name x pos):=by
 intro t st s env loc X st' A hA hsc F R e
 rw [ev_loc] at e
 split at e
 ·rename_i v hv
  cases e
  obtain ⟨m,cm,hn,hc,hz,hs⟩:=F.ex
  obtain ⟨y,hy,r⟩:=hs i x X hx hv
  refine Sim.here R fun Q E k=>wpAny_Name ?_ hd
  rcases r with ⟨hk,hm⟩ | ⟨hk,hm⟩
  ·exact wpAny_loadName_local F.fn hk hn hm (k y s.toks hy)
  ·obtain ⟨c,hcl⟩:=Option.isSome_iff_exists.mp (hz x hk)
   exact wpAny_loadName_cell F.fn hk hcl (hm ▸ hc x c hcl) (k y s.toks hy)
 ·exact no_stuck e
theorem glob_name {A:Around} {t:Tie} {st:MS} {s:Shared} {env:Env} {loc:Loc} {x:PySem.Str} {pos:Pos} {v:Value} {Q:Value → Shared → Prop} {E:Value → Shared → Prop} (O:G.Ok N) (F:FrOk G A t env Γ loc s) (R:Rel G t st s)
  (hsc:env.scope.names = sc) (hg:glob sc x = true) (hm:G.mg x = some v) (h:Q v s):wpAny G.M A (eval (.Name x pos) env) Q E s:=by
 simp only [glob,Bool.and_eq_true,beq_iff_eq,bne_iff_ne,ne_eq] at hg
 refine Calls.Name_function_global F.fn (by unfold Env.kindOf; rw [hsc]; exact hg.1) (Calls.loadGlobal_global (by rw [F.gl]; exact O.g.keeps R.base) hm h) (by simpa using hg.2)
theorem glob_built {A:Around} {t:Tie} {st:MS} {s:Shared} {env:Env} {loc:Loc} {x:PySem.Str} {pos:Pos} {v:Value} {Q:Value → Shared → Prop} {E:Value → Shared → Prop} (O:G.Ok N) (F:FrOk G A t env Γ loc s) (R:Rel G t st s)
  (hsc:env.scope.names = sc) (hg:glob sc x = true) (hm:G.mg x = none) (hb:bootBuiltins x = some v) (hn:x ≠ "__name__") (h:Q v s):wpAny G.M A (eval (.Name x pos) env) Q E s:=by
 simp only [glob,Bool.and_eq_true,beq_iff_eq,bne_iff_ne,ne_eq] at hg
 refine Calls.Name_function_global F.fn (by unfold Env.kindOf; rw [hsc]; exact hg.1) (Calls.loadGlobal_builtin (by rw [F.gl]; exact O.g.keeps R.base) hm (by rw [F.bl]; exact O.b.keeps R.base) ((O.bi x hn).trans hb) h) (by simpa using hg.2)
theorem sim_gint (O:G.Ok N) {x:PySem.Str} {i:Int} {pos:Pos} (hg:glob sc x = true) (hi:N.gi.contains (x,i) = true):SimE G C d sc Γ (.gint x i) (.Name x pos):=by
 intro t st s env loc X st' A hA hsc F R e
 cases e
 obtain ⟨k',hk⟩:=O.gi x i hi
 exact Sim.here R fun Q E k=>glob_name O F R hsc hg hk (k _ s.toks ⟨_,rfl⟩)
theorem sim_gstr (O:G.Ok N) {x:PySem.Str} {l:List Nat} {pos:Pos} (hg:glob sc x = true) (hi:N.gs.contains (x,l) = true):SimE G C d sc Γ (.gstr x l) (.Name x pos):=by
 intro t st s env loc X st' A hA hsc F R e
 cases e
 obtain ⟨k',hk⟩:=O.gs x l hi
 exact Sim.here R fun Q E k=>glob_name O F R hsc hg hk (k _ s.toks ⟨_,rfl⟩)
theorem sim_es_nil:SimEs G C d sc Γ [] []:=by
 intro pos t st s env loc X st' A hA hsc F R e
 cases e
 exact fun Q E k=>Calls.spliced_nil (k [] t s (.refl _ _ _) R rfl)
theorem sim_es_cons {e:E} {l:List E} {x:PySem.Expr} {m:List PySem.Expr} (hx:isStarred x = false) (h1:SimE G C d sc Γ e x) (h2:SimEs G C d sc Γ l m):SimEs G C d sc Γ (e :: l) (x :: m):=by
 intro pos t st s env loc X st' A hA hsc F R q
 rw [evL_cons] at q
 obtain ⟨v,s1,q1,q⟩:=Res.bind_ok q
 obtain ⟨vs,s2,q2,q⟩:=Res.bind_ok q
 cases q
 intro Q E k
 have he:starEach (x :: m) env = (false,eval x env) :: starEach m env:=by cases x <;> first | rfl | exact no_tf hx
 refine wpAny_items_cons (h1 t st s env loc v s1 A hA hsc F R q1 _ _ fun y t1 σ1 S1 R1 r1=>?_) he
 refine h2 pos t1 s1 σ1 env loc vs st' A hA hsc (F.step R S1) R1 q2 _ _ fun ys t2 σ2 S2 R2 r2=>?_
 exact k _ t2 σ2 (S1.trans S2) R2 ⟨y,ys,rfl,VRel.step S2 (fun _ z=>z.elim) v r1,r2⟩
end
end Mine
end
section
namespace Mine
open PySem PySem.W PyProof.Rows PySem.SeqAt
section
variable {G:Gd} {t:Tie} {st:MS} {s:Shared}
theorem seqOf_real (R:Rel G t st s) {X:V} {v:Value} {k:Bool} {l:List V} (r:VRel t s.heap X v) (e:seqOf st X = some (k,l)) :
  ∃ a vs,v = .ref a ∧ (if k = true then PL s.heap a vs else PT s.heap a vs) ∧ VRels t s.heap l vs.toList ∧ l.length ≤ sizeMax:=by
 cases X with
 | tup m=>cases e; obtain ⟨a,vs,e1,e2,_,sz,e3⟩:=r; exact ⟨a,vs,e1,e2,e3,sz⟩
 | lst m=>cases e; obtain ⟨a,vs,e1,e2,_,sz,e3⟩:=r; exact ⟨a,vs,e1,e2,e3,sz⟩
 | ref lb =>
  simp only [seqOf] at e
  split at e
  ·rename_i m hm
   cases e
   obtain ⟨a,vs,h1,h2,sz,h3⟩:=R.objs lb _ hm
   obtain ⟨a',e1,e2⟩:=r
   rw [h1] at e2; cases e2
   exact ⟨a,vs,e1,h2,h3,sz⟩
  ·exact no_none e
 | _=>exact no_none e
noncomputable def vk (t:Tie) (h:Heap) (v:Value):Nat:=match v with
 | .none=>0
 | .bool _=>1
 | .int _ _=>2
 | .str _ _=>3
 | .ref a=>@ite Nat (∃ l,t.ρ l = some a) (Classical.propDecidable _) 6 ((h.get? a).elim 7 fun o=>@ite Nat (o.cls = .type "tuple") (Classical.propDecidable _) 4 (@ite Nat (o.cls = .type "list") (Classical.propDecidable _) 5 7))
 | _=>8
theorem vk_ref {h:Heap} {a:Addr} {o:Obj} (ho:h.get? a = some o) (na:¬ t.Avoid a):vk t h (.ref a) = @ite Nat (o.cls = .type "tuple") (Classical.propDecidable _) 4 (@ite Nat (o.cls = .type "list") (Classical.propDecidable _) 5 7):=by
 have n1:¬ ∃ l,t.ρ l = some a:=fun ⟨l,q⟩=>na (.inl ⟨l,.inl q⟩)
 show @ite Nat (∃ l,t.ρ l = some a) (Classical.propDecidable _) 6 ((h.get? a).elim 7 _) = _
 rw [if_neg n1,ho]; rfl
theorem list_ne_tuple:¬ (Value.type "list" = .type "tuple"):=by decide
theorem VRel.kind {h:Heap}:∀ {X:V} {v:Value},VRel t h X v → vk t h v = X.ctorIdx
 | .none,_,e=>by rw [show _ = _ from e]; rfl
 | .bool b,_,e=>by rw [show _ = _ from e]; rfl
 | .int i,_,⟨k,e⟩=>by rw [e]; rfl
 | .str x,_,⟨k,e⟩=>by rw [e]; rfl
 | .tup l,_,⟨a,vs,e,⟨n,ho⟩,na,_⟩=>by rw [e,vk_ref ho na,if_pos rfl]; rfl
 | .lst l,_,⟨a,vs,e,⟨n,ho⟩,na,_⟩=>by rw [e,vk_ref ho na,if_neg list_ne_tuple,if_pos rfl]; rfl
 | .ref l,_,⟨a,e,hl⟩=>by
  rw [e]
  show @ite Nat (∃ l,t.ρ l = some a) (Classical.propDecidable _) 6 _ = _
  rw [if_pos ⟨l,hl⟩]; rfl
 | .exc c,_,⟨a,o,e,ho,hc,na⟩=>by rw [e,vk_ref ho na,hc,if_neg nofun,if_neg nofun]; rfl
theorem ref_inj {a b:Addr} (e:Value.ref a = .ref b):a = b:=by cases e; rfl
mutual
theorem VRel.inj (R:Rel G t st s):∀ (X Y:V) {v:Value},VRel t s.heap X v → VRel t s.heap Y v → X = Y
 | .none,Y,v,h,h'=>V.none.elim (motive_1:=fun Y=>V.none = Y) Y (h'.kind.symm.trans h.kind) rfl
 | .bool b,Y,v,h,h'=>V.bool.elim (motive_1:=fun Y=>VRel t s.heap Y v → V.bool b = Y) Y (h'.kind.symm.trans h.kind) (fun b' h'=>by
  have e:Value.bool b = .bool b':=(show v = .bool b from h).symm.trans h'
  cases e; rfl) h'
 | .int i,Y,v,h,h'=>V.int.elim (motive_1:=fun Y=>VRel t s.heap Y v → V.int i = Y) Y (h'.kind.symm.trans h.kind) (fun i' h'=>by
  obtain ⟨k,e⟩:=h
  obtain ⟨k',e'⟩:=h'
  rw [e] at e'; cases e'; rfl) h'
 | .str x,Y,v,h,h'=>V.str.elim (motive_1:=fun Y=>VRel t s.heap Y v → V.str x = Y) Y (h'.kind.symm.trans h.kind) (fun y h'=>by
  obtain ⟨k,e⟩:=h
  obtain ⟨k',e'⟩:=h'
  rw [e] at e'
  simp only [Value.str.injEq,Str.mk.injEq] at e'
  have:=congrArg Array.toList e'.1
  simp only [List.toList_toArray] at this
  rw [this]) h'
 | .tup l,Y,v,h,h'=>V.tup.elim (motive_1:=fun Y=>VRel t s.heap Y v → V.tup l = Y) Y (h'.kind.symm.trans h.kind) (fun m h'=>by
  obtain ⟨a,vs,e,⟨n,ho⟩,_,_,hr⟩:=h
  obtain ⟨b,ws,e',⟨n',ho'⟩,_,_,hr'⟩:=h'
  cases ref_inj (e.symm.trans e')
  rw [ho] at ho'; cases ho'
  rw [VRels.inj R l m hr hr']) h'
 | .lst l,Y,v,h,h'=>V.lst.elim (motive_1:=fun Y=>VRel t s.heap Y v → V.lst l = Y) Y (h'.kind.symm.trans h.kind) (fun m h'=>by
  obtain ⟨a,vs,e,⟨n,ho⟩,_,_,hr⟩:=h
  obtain ⟨b,ws,e',⟨n',ho'⟩,_,_,hr'⟩:=h'
  cases ref_inj (e.symm.trans e')
  rw [ho] at ho'; cases ho'
  rw [VRels.inj R l m hr hr']) h'
 | .ref l,Y,v,h,h'=>V.ref.elim (motive_1:=fun Y=>VRel t s.heap Y v → V.ref l = Y) Y (h'.kind.symm.trans h.kind) (fun r h'=>by
  obtain ⟨a,e,hl⟩:=h
  obtain ⟨b,e',hb⟩:=h'
  cases ref_inj (e.symm.trans e')
  rw [R.injρ l r a hl hb]) h'
 | .exc c,Y,v,h,h'=>V.exc.elim (motive_1:=fun Y=>VRel t s.heap Y v → V.exc c = Y) Y (h'.kind.symm.trans h.kind) (fun c' h'=>by
  obtain ⟨a,o,e,ho,hc,_⟩:=h
  obtain ⟨b,o',e',ho',hc',_⟩:=h'
  cases ref_inj (e.symm.trans e')
  rw [ho] at ho'; cases ho'
  rw [hc] at hc'; cases hc'; rfl) h'
theorem VRels.inj (R:Rel G t st s):∀ (l m:List V) {vs:List Value},VRels t s.heap l vs → VRels t s.heap m vs → l = m
 | [],[],vs,h,h'=>rfl
 | [],y :: m,vs,h,h'=>by
  obtain ⟨_,_,e,_⟩:=h'
  rw [show vs = [] from h] at e; cases e
 | x :: l,[],vs,h,h'=>by
  obtain ⟨_,_,e,_⟩:=h
  rw [show vs = [] from h'] at e; cases e
 | x :: l,y :: m,vs,h,h'=>by
  obtain ⟨v,r,e,a,b⟩:=h
  obtain ⟨v',r',e',a',b'⟩:=h'
  rw [e] at e'; cases e'
  rw [VRel.inj R x y a a',VRels.inj R l m b b']
end
theorem veq_go_spec (st:MS) (n:Nat):∀ (la lb:List V) (r:Bool),zipAll (veq st n) la lb = some r →
  (∀ (j:Nat) (x y:V),la[j]? = some x → lb[j]? = some y → ∃ b,veq st n x y = some b) ∧
  r = ((List.range (min la.length lb.length)).all (fun j=>(veq st n ((la[j]?).getD .none) ((lb[j]?).getD .none)).getD false) && la.length == lb.length)
 | [],[],r,e=>by simp only [zipAll] at e; cases e; exact ⟨fun j x y e=>by simp at e,rfl⟩
 | [],y :: lb,r,e=>by simp only [zipAll] at e; cases e; exact ⟨fun j x y e=>by simp at e,by simp⟩
 | x :: la,[],r,e=>by simp only [zipAll] at e; cases e; exact ⟨fun j x y _ e=>by simp at e,by simp⟩
 | x :: la,y :: lb,r,e=>by
  simp only [zipAll] at e
  split at e
  ·rename_i p q hp hq
   cases e
   obtain ⟨h1,h2⟩:=veq_go_spec st n la lb q hq
   refine ⟨fun j x' y' e1 e2=>?_,?_⟩
   ·cases j with
    | zero=>simp at e1 e2; subst e1 e2; exact ⟨p,hp⟩
    | succ j=>simp at e1 e2; exact h1 j x' y' e1 e2
   ·have:min (x :: la).length (y :: lb).length = min la.length lb.length + 1:=by simp only [List.length_cons]; lia
    rw [this,List.range_succ_eq_map,List.all_cons,List.all_map,h2]
    simp [hp,Function.comp_def,Bool.and_assoc]
  ·exact no_none e
theorem zip_rfl {f:V → V → Option Bool} (h:∀ x b,f x x = some b → b = true):∀ (l:List V) (r:Bool),zipAll f l l = some r → r = true
 | [],_,e=>by cases e; rfl
 | x :: l,r,e=>by
  have e:(match f x x,zipAll f l l with | some p,some q=>some (p && q) | _,_=>none) = some r:=e
  cases hp:f x x with
  | none=>rw [hp] at e; exact no_none e
  | some p =>
   cases hq:zipAll f l l with
   | none=>rw [hp,hq] at e; exact no_none e
   | some q =>
    rw [hp,hq] at e
    cases e
    rw [h x p hp,zip_rfl h l q hq]; rfl
theorem flat_rfl {X:V} {r:Bool} (e:eqFlat X X = some r):r = true:=by
 cases X with
 | bool b=>cases e; cases b <;> rfl
 | int i=>cases e; exact decide_eq_true rfl
 | str x=>cases e; exact decide_eq_true rfl
 | none=>cases e; rfl
 | _=>exact no_none e
theorem veq_refl (st:MS):∀ (n:Nat) (X:V) (r:Bool),veq st n X X = some r → r = true
 | 0,_,_,e=>by exact no_none e
 | n + 1,X,r,e=>by
  have e:(match seqOf st X,seqOf st X with
   | some p,some q=>if p.1 = q.1 then (if p.1 = true ∧ p.2.length ≠ q.2.length then some false else zipAll (veq st n) p.2 q.2) else some false
   | some _,Option.none=>eqNotSeq X
   | Option.none,some _=>eqNotSeq X
   | Option.none,Option.none=>eqFlat X X) = some r:=e
  cases h:seqOf st X with
  | none=>rw [h] at e; exact flat_rfl e
  | some p =>
   rw [h] at e
   have e:(if p.1 = p.1 then (if p.1 = true ∧ p.2.length ≠ p.2.length then some false else zipAll (veq st n) p.2 p.2) else some false) = some r:=e
   rw [if_pos rfl,if_neg fun q=>q.2 rfl] at e
   exact zip_rfl (veq_refl st n) p.2 r e
theorem VRels.at {h:Heap} {l:List V} {vs:Array Value} (r:VRels t h l vs.toList) {j:Nat} (hj:j < vs.size):∃ x,l[j]? = some x ∧ VRel t h x vs[j]:=by
 have hl:=r.length
 have:j < l.length:=by rw [← hl]; simpa using hj
 obtain ⟨v,e1,e2⟩:=r.get (i:=j) (x:=l[j]) (by simp [this])
 refine ⟨l[j],by simp [this],?_⟩
 rw [Array.getElem?_toList,Array.getElem?_eq_getElem hj] at e1
 cases e1; exact e2
theorem veq_sound (R:Rel G t st s):∀ (n:Nat) (X Y:V) (v w:Value) (r:Bool) (A:Around),veq st n X Y = some r → VRel t s.heap X v → VRel t s.heap Y w → A.units + n < cLine → EqAt A s v w r
 | 0,_,_,_,_,_,_,e,_,_,_=>by simp [veq] at e
 | n + 1,X,Y,v,w,r,A,e,hX,hY,hu=>by
  have e':=e
  unfold veq at e
  have hu0:A.units < cLine:=by lia
  cases hx:seqOf st X with
  | some p =>
   obtain ⟨ka,la⟩:=p
   obtain ⟨a,vs,rfl,ia,ra,_⟩:=seqOf_real R hX hx
   cases hy:seqOf st Y with
   | some p =>
    obtain ⟨kb,lb⟩:=p
    obtain ⟨b,ws,rfl,ib,rb,_⟩:=seqOf_real R hY hy
    rw [hx,hy] at e
    simp only at e
    by_cases hab:a = b
    ·subst hab
     have:X = Y:=VRel.inj R X Y hX hY
     subst this
     rw [veq_refl st _ X r e']
     exact EqAt.same _
    split at e
    ·rename_i hk
     subst hk
     have hls:vs.size = la.length:=by rw [← ra.length]; simp
     have hlb:ws.size = lb.length:=by rw [← rb.length]; simp
     cases ka with
     | true =>
      simp only [if_true] at ia ib
      split at e
      ·rename_i hne
       cases e
       exact .of_refs hab (RcAt.lists_lengths ia.isList ib.isList (by simp only [bne_iff_ne,ne_eq]; rw [hls,hlb]; exact hne.2) hu0)
      ·rename_i hne
       have hlen:la.length = lb.length:=by simpa using hne
       obtain ⟨g1,g2⟩:=veq_go_spec st n la lb r e
       refine .of_refs hab ?_
       have:=RcAt.lists (e:=fun j=>(veq st n ((la[j]?).getD .none) ((lb[j]?).getD .none)).getD false) ia.isList ib.isList (by rw [hls,hlb]; exact hlen) hu0 (fun j h1 h2=>by
        obtain ⟨x,q1,q2⟩:=ra.at h1
        obtain ⟨y,q3,q4⟩:=rb.at h2
        obtain ⟨z,hz⟩:=g1 j x y q1 q3
        rw [q1,q3,Option.getD_some,Option.getD_some,hz]
        exact veq_sound R n x y _ _ z A.in1 hz q2 q4 (by show A.units + 1 + n < cLine; lia))
       rw [hls] at this
       rw [g2]
       have hm:min la.length lb.length = la.length:=by lia
       rw [hm,hlen]
       rw [hlen] at this
       simpa using this
     | false =>
      simp only [Bool.false_eq_true,if_false,false_and] at ia ib e
      obtain ⟨g1,g2⟩:=veq_go_spec st n la lb r e
      refine .of_refs hab ?_
      have:=RcAt.tuples (e:=fun j=>(veq st n ((la[j]?).getD .none) ((lb[j]?).getD .none)).getD false) ia.isTuple ib.isTuple hu0 (fun j h1 h2=>by
       obtain ⟨x,q1,q2⟩:=ra.at h1
       obtain ⟨y,q3,q4⟩:=rb.at h2
       obtain ⟨z,hz⟩:=g1 j x y q1 q3
       rw [q1,q3,Option.getD_some,Option.getD_some,hz]
       exact veq_sound R n x y _ _ z A.in1 hz q2 q4 (by show A.units + 1 + n < cLine; lia))
      rw [hls,hlb] at this
      rw [g2]; exact this
    ·rename_i hk
     cases e
     cases ka <;> cases kb <;> simp at hk ia ib
     ·exact EqAt.tuple_list ia.isTuple ib.isList hu0
     ·exact EqAt.list_tuple ia.isList ib.isTuple hu0
   | none =>
    rw [hx,hy] at e
    cases ka with
    | true =>
     simp only [if_true] at ia
     cases Y <;> simp [eqNotSeq,eqFlat] at e
     ·subst e; cases hY; exact EqAt.list_none ia.isList hu0
     ·subst e; cases hY; exact EqAt.list_bool _ ia.isList hu0
     ·subst e; obtain ⟨_,rfl⟩:=hY; exact EqAt.list_int _ _ ia.isList hu0
     ·subst e; obtain ⟨_,rfl⟩:=hY; exact EqAt.list_str _ _ ia.isList hu0
    | false =>
     simp only [Bool.false_eq_true,if_false] at ia
     cases Y <;> simp [eqNotSeq,eqFlat] at e
     ·subst e; cases hY; exact EqAt.tuple_none ia.isTuple hu0
     ·subst e; cases hY; exact EqAt.tuple_bool _ ia.isTuple hu0
     ·subst e; obtain ⟨_,rfl⟩:=hY; exact EqAt.tuple_int _ _ ia.isTuple hu0
     ·subst e; obtain ⟨_,rfl⟩:=hY; exact EqAt.tuple_str _ _ ia.isTuple hu0
  | none =>
   cases hy:seqOf st Y with
   | some p =>
    obtain ⟨kb,lb⟩:=p
    obtain ⟨b,ws,rfl,ib,rb,_⟩:=seqOf_real R hY hy
    rw [hx,hy] at e
    cases kb with
    | true =>
     simp only [if_true] at ib
     cases X <;> simp [eqNotSeq,eqFlat] at e
     ·subst e; cases hX; exact EqAt.none_list ib.isList hu0
     ·subst e; cases hX; exact EqAt.bool_list _ ib.isList hu0
     ·subst e; obtain ⟨_,rfl⟩:=hX; exact EqAt.int_list _ _ ib.isList hu0
     ·subst e; obtain ⟨_,rfl⟩:=hX; exact EqAt.str_list _ _ ib.isList hu0
    | false =>
     simp only [Bool.false_eq_true,if_false] at ib
     cases X <;> simp [eqNotSeq,eqFlat] at e
     ·subst e; cases hX; exact EqAt.none_tuple ib.isTuple hu0
     ·subst e; cases hX; exact EqAt.bool_tuple _ ib.isTuple hu0
     ·subst e; obtain ⟨_,rfl⟩:=hX; exact EqAt.int_tuple _ _ ib.isTuple hu0
     ·subst e; obtain ⟨_,rfl⟩:=hX; exact EqAt.str_tuple _ _ ib.isTuple hu0
   | none =>
    rw [hx,hy] at e
    have strEq:∀ a b:List Nat,(toStr a == toStr b) = decide (a = b):=fun a b=>by
     by_cases q:a = b
     ·subst q; simp
     ·simp only [q,decide_false,beq_eq_false_iff_ne,ne_eq,Str.mk.injEq]; intro z; exact q (by simpa using congrArg Array.toList z)
    cases X with
    | none =>
     cases hX
     cases Y with
     | none=>simp [eqNotSeq,eqFlat] at e; subst e; cases hY; exact EqAt.same _
     | bool y=>simp [eqNotSeq,eqFlat] at e; subst e; cases hY; exact EqAt.none_bool _
     | int y=>simp [eqNotSeq,eqFlat] at e; subst e; obtain ⟨_,rfl⟩:=hY; exact EqAt.none_int _ _
     | str y=>simp [eqNotSeq,eqFlat] at e; subst e; obtain ⟨_,rfl⟩:=hY; exact EqAt.none_str _ _
     | _=>simp [eqNotSeq,eqFlat] at e
    | bool x =>
     cases hX
     cases Y with
     | none=>simp [eqNotSeq,eqFlat] at e; subst e; cases hY; exact EqAt.bool_none _
     | bool y=>simp [eqNotSeq,eqFlat] at e; subst e; cases hY; exact EqAt.bool_bool _ _
     | str y=>simp [eqNotSeq,eqFlat] at e; subst e; obtain ⟨_,rfl⟩:=hY; exact EqAt.bool_str _ _ _
     | _=>simp [eqNotSeq,eqFlat] at e
    | int x =>
     obtain ⟨k,rfl⟩:=hX
     cases Y with
     | none=>simp [eqNotSeq,eqFlat] at e; subst e; cases hY; exact EqAt.int_none _ _
     | int y=>simp [eqNotSeq,eqFlat] at e; subst e; obtain ⟨_,rfl⟩:=hY; exact EqAt.int_int _ _ _ _
     | str y=>simp [eqNotSeq,eqFlat] at e; subst e; obtain ⟨_,rfl⟩:=hY; exact EqAt.int_str _ _ _ _
     | _=>simp [eqNotSeq,eqFlat] at e
    | str x =>
     obtain ⟨k,rfl⟩:=hX
     cases Y with
     | none=>simp [eqNotSeq,eqFlat] at e; subst e; cases hY; exact EqAt.str_none _ _
     | bool y=>simp [eqNotSeq,eqFlat] at e; subst e; cases hY; exact EqAt.str_bool _ _ _
     | int y=>simp [eqNotSeq,eqFlat] at e; subst e; obtain ⟨_,rfl⟩:=hY; exact EqAt.str_int _ _ _ _
     | str y=>simp [eqNotSeq,eqFlat] at e; subst e; obtain ⟨_,rfl⟩:=hY; rw [← strEq]; exact EqAt.str_str _ _ _ _
     | _=>simp [eqNotSeq,eqFlat] at e
    | _=>simp [eqNotSeq,eqFlat] at e
end
end Mine
end
section
namespace Mine
open PySem PySem.W PyProof.Rows PySem.SeqAt
section
variable {G:Gd} {t:Tie} {st:MS} {s:Shared}
theorem strEq (a b:List Nat):(toStr a == toStr b) = decide (a = b):=by
 by_cases q:a = b
 ·subst q; simp
 ·simp only [q,decide_false,beq_eq_false_iff_ne,ne_eq,Str.mk.injEq]; intro z; exact q (by simpa using congrArg Array.toList z)
theorem rc_sound (R:Rel G t st s) {n:Nat} {X Y:V} {v w:Value} {r:Bool} {A:Around} (e:veq st n X Y = some r) (hX:VRel t s.heap X v) (hY:VRel t s.heap Y w) (hu:A.units + n < cLine) :
  RcAt A s v w r ∧ RcNeAt A s v w (!r):=by
 cases n with
 | zero=>simp [veq] at e
 | succ n =>
  unfold veq at e
  have hu0:A.units < cLine:=by lia
  cases hx:seqOf st X with
  | some p =>
   obtain ⟨ka,la⟩:=p
   obtain ⟨a,vs,rfl,ia,ra,_⟩:=seqOf_real R hX hx
   cases hy:seqOf st Y with
   | some p =>
    obtain ⟨kb,lb⟩:=p
    obtain ⟨b,ws,rfl,ib,rb,_⟩:=seqOf_real R hY hy
    rw [hx,hy] at e
    simp only at e
    have hls:vs.size = la.length:=by rw [← ra.length]; simp
    have hlb:ws.size = lb.length:=by rw [← rb.length]; simp
    split at e
    ·rename_i hk
     subst hk
     cases ka with
     | true =>
      simp only [if_true] at ia ib
      split at e
      ·rename_i hne
       cases e
       have:(vs.size != ws.size) = true:=by simp only [bne_iff_ne,ne_eq]; rw [hls,hlb]; exact hne.2
       exact ⟨RcAt.lists_lengths ia.isList ib.isList this hu0,RcNeAt.lists_lengths ia.isList ib.isList this hu0⟩
      ·rename_i hne
       have hlen:la.length = lb.length:=by simpa using hne
       obtain ⟨g1,g2⟩:=veq_go_spec st n la lb r e
       have items:∀ j (h1:j < vs.size) (h2:j < ws.size),EqAt A.in1 s vs[j] ws[j] ((veq st n ((la[j]?).getD .none) ((lb[j]?).getD .none)).getD false):=fun j h1 h2=>by
        obtain ⟨x,q1,q2⟩:=ra.at h1
        obtain ⟨y,q3,q4⟩:=rb.at h2
        obtain ⟨z,hz⟩:=g1 j x y q1 q3
        rw [q1,q3,Option.getD_some,Option.getD_some,hz]
        exact veq_sound R n x y _ _ z A.in1 hz q2 q4 (by show A.units + 1 + n < cLine; lia)
       have e1:=RcAt.lists (e:=fun j=>(veq st n ((la[j]?).getD .none) ((lb[j]?).getD .none)).getD false) ia.isList ib.isList (by rw [hls,hlb]; exact hlen) hu0 items
       have e2:=RcNeAt.lists (e:=fun j=>(veq st n ((la[j]?).getD .none) ((lb[j]?).getD .none)).getD false) ia.isList ib.isList (by rw [hls,hlb]; exact hlen) hu0 items
       have:r = (List.range vs.size).all fun j=>(veq st n ((la[j]?).getD .none) ((lb[j]?).getD .none)).getD false:=by
        rw [g2,hls,hlen]; simp
       rw [this]
       exact ⟨e1,e2⟩
     | false =>
      simp only [Bool.false_eq_true,if_false,false_and] at ia ib e
      obtain ⟨g1,g2⟩:=veq_go_spec st n la lb r e
      have items:∀ j (h1:j < vs.size) (h2:j < ws.size),EqAt A.in1 s vs[j] ws[j] ((veq st n ((la[j]?).getD .none) ((lb[j]?).getD .none)).getD false):=fun j h1 h2=>by
       obtain ⟨x,q1,q2⟩:=ra.at h1
       obtain ⟨y,q3,q4⟩:=rb.at h2
       obtain ⟨z,hz⟩:=g1 j x y q1 q3
       rw [q1,q3,Option.getD_some,Option.getD_some,hz]
       exact veq_sound R n x y _ _ z A.in1 hz q2 q4 (by show A.units + 1 + n < cLine; lia)
      have e1:=RcAt.tuples (e:=fun j=>(veq st n ((la[j]?).getD .none) ((lb[j]?).getD .none)).getD false) ia.isTuple ib.isTuple hu0 items
      have e2:=RcNeAt.tuples (e:=fun j=>(veq st n ((la[j]?).getD .none) ((lb[j]?).getD .none)).getD false) ia.isTuple ib.isTuple hu0 items
      rw [hls,hlb,← g2] at e1 e2
      exact ⟨e1,e2⟩
    ·rename_i hk
     cases e
     cases ka <;> cases kb <;> simp at hk ia ib
     ·exact ⟨RcAt.tuple_list ia.isTuple ib.isList hu0,RcNeAt.tuple_list ia.isTuple ib.isList hu0⟩
     ·exact ⟨RcAt.list_tuple ia.isList ib.isTuple hu0,RcNeAt.list_tuple ia.isList ib.isTuple hu0⟩
   | none =>
    rw [hx,hy] at e
    cases ka with
    | true =>
     simp only [if_true] at ia
     cases Y <;> simp [eqNotSeq] at e
     ·subst e; cases hY; exact ⟨RcAt.list_none ia.isList hu0,RcNeAt.list_none ia.isList hu0⟩
     ·subst e; cases hY; exact ⟨RcAt.list_bool _ ia.isList hu0,RcNeAt.list_bool _ ia.isList hu0⟩
     ·subst e; obtain ⟨_,rfl⟩:=hY; exact ⟨RcAt.list_int _ _ ia.isList hu0,RcNeAt.list_int _ _ ia.isList hu0⟩
     ·subst e; obtain ⟨_,rfl⟩:=hY; exact ⟨RcAt.list_str _ _ ia.isList hu0,RcNeAt.list_str _ _ ia.isList hu0⟩
    | false =>
     simp only [Bool.false_eq_true,if_false] at ia
     cases Y <;> simp [eqNotSeq] at e
     ·subst e; cases hY; exact ⟨RcAt.tuple_none ia.isTuple hu0,RcNeAt.tuple_none ia.isTuple hu0⟩
     ·subst e; cases hY; exact ⟨RcAt.tuple_bool _ ia.isTuple hu0,RcNeAt.tuple_bool _ ia.isTuple hu0⟩
     ·subst e; obtain ⟨_,rfl⟩:=hY; exact ⟨RcAt.tuple_int _ _ ia.isTuple hu0,RcNeAt.tuple_int _ _ ia.isTuple hu0⟩
     ·subst e; obtain ⟨_,rfl⟩:=hY; exact ⟨RcAt.tuple_str _ _ ia.isTuple hu0,RcNeAt.tuple_str _ _ ia.isTuple hu0⟩
  | none =>
   cases hy:seqOf st Y with
   | some p =>
    obtain ⟨kb,lb⟩:=p
    obtain ⟨b,ws,rfl,ib,rb,_⟩:=seqOf_real R hY hy
    rw [hx,hy] at e
    cases kb with
    | true =>
     simp only [if_true] at ib
     cases X <;> simp [eqNotSeq] at e
     ·subst e; cases hX; exact ⟨RcAt.none_list ib.isList hu0,RcNeAt.none_list ib.isList hu0⟩
     ·subst e; cases hX; exact ⟨RcAt.bool_list _ ib.isList hu0,RcNeAt.bool_list _ ib.isList hu0⟩
     ·subst e; obtain ⟨_,rfl⟩:=hX; exact ⟨RcAt.int_list _ _ ib.isList hu0,RcNeAt.int_list _ _ ib.isList hu0⟩
     ·subst e; obtain ⟨_,rfl⟩:=hX; exact ⟨RcAt.str_list _ _ ib.isList hu0,RcNeAt.str_list _ _ ib.isList hu0⟩
    | false =>
     simp only [Bool.false_eq_true,if_false] at ib
     cases X <;> simp [eqNotSeq] at e
     ·subst e; cases hX; exact ⟨RcAt.none_tuple ib.isTuple hu0,RcNeAt.none_tuple ib.isTuple hu0⟩
     ·subst e; cases hX; exact ⟨RcAt.bool_tuple _ ib.isTuple hu0,RcNeAt.bool_tuple _ ib.isTuple hu0⟩
     ·subst e; obtain ⟨_,rfl⟩:=hX; exact ⟨RcAt.int_tuple _ _ ib.isTuple hu0,RcNeAt.int_tuple _ _ ib.isTuple hu0⟩
     ·subst e; obtain ⟨_,rfl⟩:=hX; exact ⟨RcAt.str_tuple _ _ ib.isTuple hu0,RcNeAt.str_tuple _ _ ib.isTuple hu0⟩
   | none =>
    rw [hx,hy] at e
    cases X with
    | none =>
     cases hX
     cases Y with
     | none=>simp [eqFlat] at e; subst e; cases hY; exact ⟨RcAt.none_none,RcNeAt.none_none⟩
     | bool y=>simp [eqFlat] at e; subst e; cases hY; exact ⟨RcAt.none_bool _,RcNeAt.none_bool _⟩
     | int y=>simp [eqFlat] at e; subst e; obtain ⟨_,rfl⟩:=hY; exact ⟨RcAt.none_int _ _,RcNeAt.none_int _ _⟩
     | str y=>simp [eqFlat] at e; subst e; obtain ⟨_,rfl⟩:=hY; exact ⟨RcAt.none_str _ _,RcNeAt.none_str _ _⟩
     | _=>simp [eqFlat] at e
    | bool x =>
     cases hX
     cases Y with
     | none=>simp [eqFlat] at e; subst e; cases hY; exact ⟨RcAt.bool_none _,RcNeAt.bool_none _⟩
     | bool y=>simp only [eqFlat] at e; cases e; cases hY; exact ⟨RcAt.bool_bool _ _,RcNeAt.bool_bool _ _⟩
     | str y=>simp [eqFlat] at e; subst e; obtain ⟨_,rfl⟩:=hY; exact ⟨RcAt.bool_str _ _ _,RcNeAt.bool_str _ _ _⟩
     | _=>simp [eqFlat] at e
    | int x =>
     obtain ⟨k,rfl⟩:=hX
     cases Y with
     | none=>simp [eqFlat] at e; subst e; cases hY; exact ⟨RcAt.int_none _ _,RcNeAt.int_none _ _⟩
     | int y=>simp only [eqFlat] at e; cases e; obtain ⟨_,rfl⟩:=hY; exact ⟨RcAt.int_int _ _ _ _,RcNeAt.int_int _ _ _ _⟩
     | str y=>simp [eqFlat] at e; subst e; obtain ⟨_,rfl⟩:=hY; exact ⟨RcAt.int_str _ _ _ _,RcNeAt.int_str _ _ _ _⟩
     | _=>simp [eqFlat] at e
    | str x =>
     obtain ⟨k,rfl⟩:=hX
     cases Y with
     | none=>simp [eqFlat] at e; subst e; cases hY; exact ⟨RcAt.str_none _ _,RcNeAt.str_none _ _⟩
     | bool y=>simp [eqFlat] at e; subst e; cases hY; exact ⟨RcAt.str_bool _ _ _,RcNeAt.str_bool _ _ _⟩
     | int y=>simp [eqFlat] at e; subst e; obtain ⟨_,rfl⟩:=hY; exact ⟨RcAt.str_int _ _ _ _,RcNeAt.str_int _ _ _ _⟩
     | str y=>simp only [eqFlat] at e; cases e; obtain ⟨_,rfl⟩:=hY; rw [← strEq]; exact ⟨RcAt.str_str _ _ _ _,RcNeAt.str_str _ _ _ _⟩
     | _=>simp [eqFlat] at e
    | _=>simp [eqFlat] at e
theorem vin_spec (st:MS) (x:V):∀ (l:List V) (r:Bool),vin st x l = some r → (∀ y ∈ l,∃ b,veq st eqDeep y x = some b) ∧ r = l.any fun y=>(veq st eqDeep y x).getD false
 | [],r,e=>by simp only [vin] at e; cases e; simp
 | y :: l,r,e=>by
  simp only [vin] at e
  split at e
  ·rename_i p q hp hq
   cases e
   obtain ⟨h1,h2⟩:=vin_spec st x l q hq
   refine ⟨fun z hz=>?_,?_⟩
   ·rcases List.mem_cons.mp hz with rfl | hz
    ·exact ⟨p,hp⟩
    ·exact h1 z hz
   ·rw [List.any_cons,hp,h2]; rfl
  ·exact no_none e
end
end Mine
end
section
namespace Mine
open PySem PySem.W PyProof.Rows PySem.SeqAt
section
variable {G:Gd} {N:Names} {C:Calls} {d:Dp} {sc:Sc} {Γ:Gam} {t:Tie} {st st':MS} {s:Shared} {A:Around} {X Y Z:V} {v w:Value}
theorem AOk.u12 (h:AOk d A):A.units + eqDeep < cLine:=by have:=h.un; unfold eqDeep; lia
theorem AOk.u1 (h:AOk d A):A.units < cLine:=by have:=h.un; omega
theorem DRel.find {h:Heap}:∀ {dd:List (V × V)} {kvs:List (PySem.Str × Value)} {x:List Nat},DRel t h dd kvs →
  (match dfind (.str x) dd with | some X=>∃ y,valueAt kvs (toStr x) = some y ∧ VRel t h X y | none=>valueAt kvs (toStr x) = none)
 | [],_,x,e=>by cases e; rfl
 | (k,u) :: r,_,x,⟨z,y,rest,e1,e2,e3,e4⟩=>by
  subst e1 e2
  have ih:=DRel.find (x:=x) e4
  have hh:dfind (.str x) ((V.str z,u) :: r) = if decide (z = x) = true then some u else dfind (.str x) r:=rfl
  rw [hh]
  by_cases q:z = x
  ·subst q; rw [if_pos (decide_eq_true rfl)]; exact ⟨y,by simp [valueAt],e3⟩
  ·rw [if_neg (by rw [decide_eq_false q]; exact Bool.false_ne_true)]
   have q2:¬ (toStr z = toStr x):=fun z'=>q (by simpa using congrArg Array.toList (Str.mk.inj z'))
   have:valueAt ((toStr z,y) :: rest) (toStr x) = valueAt rest (toStr x):=by simp [valueAt,q2]
   rw [this]; exact ih
theorem zipm {h:Heap}:∀ {m:List V} {ws:List Value},VRels t h m ws → ∀ p ∈ m.zip ws,VRel t h p.1 p.2:=by
 intro m
 induction m with
 | nil=>intro ws h p hp; cases h; cases hp
 | cons x m ih =>
  rintro ws ⟨u,r,rfl,h1,h2⟩ p hp
  rcases List.mem_cons.mp hp with rfl | hp
  ·exact h1
  ·exact ih h2 p hp
theorem zipin {h:Heap}:∀ {m:List V} {ws:List Value},VRels t h m ws → ∀ y ∈ ws,∃ Y',(Y',y) ∈ m.zip ws:=by
 intro m
 induction m with
 | nil=>intro ws h y hy; cases h; cases hy
 | cons x m ih =>
  rintro ws ⟨u,r,rfl,h1,h2⟩ y hy
  rcases List.mem_cons.mp hy with rfl | hy
  ·exact ⟨x,.head _⟩
  ·obtain ⟨Y',h3⟩:=ih h2 y hy; exact ⟨Y',.tail _ h3⟩
noncomputable def eqs (st:MS) (X:V) (l:List V) (vs:List Value) (y:Value):Bool:=(l.zip vs).any fun p=>decide (p.2 = y) && (veq st eqDeep p.1 X).getD false
theorem eqs_at (R:Rel G t st s) {l:List V} {vs:List Value} (ra:VRels t s.heap l vs) {Y':V} {y:Value} (hin:(Y',y) ∈ l.zip vs) {z:Bool} (hz:veq st eqDeep Y' X = some z):eqs st X l vs y = z:=by
 cases z with
 | true=>exact List.any_eq_true.mpr ⟨_,hin,by rw [hz,decide_eq_true rfl]; rfl⟩
 | false =>
  refine List.any_eq_false.mpr fun p hp=>?_
  by_cases q:p.2 = y
  ·have h3:=zipm ra p hp
   rw [q] at h3
   rw [VRel.inj R _ _ h3 (zipm ra _ hin),hz,Option.getD_some,Bool.and_false]; exact Bool.false_ne_true
  ·rw [decide_eq_false q,Bool.false_and]; exact Bool.false_ne_true
theorem eqs_any (R:Rel G t st s) {l:List V} {vs:List Value} (ra:VRels t s.heap l vs) (g1:∀ y ∈ l,∃ z,veq st eqDeep y X = some z):∀ (m:List V) (ws:List Value),VRels t s.heap m ws → (∀ p ∈ m.zip ws,p ∈ l.zip vs) → ws.any (eqs st X l vs) = m.any fun y=>(veq st eqDeep y X).getD false:=by
 intro m
 induction m with
 | nil=>intro ws h _; cases h; rfl
 | cons x m ih =>
  rintro ws ⟨u,r,rfl,h1,h2⟩ hsub
  have hin:(x,u) ∈ l.zip vs:=hsub _ (.head _)
  obtain ⟨z,hz⟩:=g1 x (List.of_mem_zip hin).1
  rw [List.any_cons,List.any_cons,ih r h2 fun p hp=>hsub p (.tail _ hp),eqs_at R ra hin hz,hz]; rfl
theorem eqs_ev (R:Rel G t st s) (hA:AOk d A) (hX:VRel t s.heap X v) {l:List V} {vs:List Value} (ra:VRels t s.heap l vs) (g1:∀ y ∈ l,∃ z,veq st eqDeep y X = some z) {y:Value} (hy:y ∈ vs):EqAt A.in1 s y v (eqs st X l vs y):=by
 obtain ⟨Y',h1⟩:=zipin ra y hy
 obtain ⟨z,hz⟩:=g1 Y' (List.of_mem_zip h1).1
 rw [eqs_at R ra h1 hz]
 exact veq_sound R _ Y' X y v z A.in1 hz (zipm ra _ h1) hX (by show A.units + 1 + eqDeep < cLine; have:=hA.un; unfold eqDeep; omega)
noncomputable def InBoth (G:Gd) (A:Around) (s:Shared) (v w:Value) (b:Bool):Prop :=
 ∃ tk,(∀ (Q:Value → Shared → Prop) (E:Value → Shared → Prop),Q (.bool b) { s with toks:=tk } → wpAny G.M A (compareOp .In v w) Q E s) ∧
  ∀ (Q:Value → Shared → Prop) (E:Value → Shared → Prop),Q (.bool (!b)) { s with toks:=tk } → wpAny G.M A (compareOp .NotIn v w) Q E s
theorem in_seq (R:Rel G t st s) (hA:AOk d A) (hX:VRel t s.heap X v) (hY:VRel t s.heap Y w) {k:Bool} {l:List V} (hs:seqOf st Y = some (k,l)) {b:Bool} (hb:vin st X l = some b):InBoth G A s v w b:=by
 obtain ⟨a,vs,rfl,ia,ra,_⟩:=seqOf_real R hY hs
 obtain ⟨g1,g2⟩:=vin_spec st X l b hb
 have ev:∀ y ∈ vs,EqAt A.in1 s y v (eqs st X l vs.toList y):=fun y hy=>eqs_ev R hA hX ra g1 (Array.mem_toList_iff.mpr hy)
 have anyE:vs.any (eqs st X l vs.toList) = b:=by rw [g2,← Array.any_toList]; exact eqs_any R ra g1 l vs.toList ra fun p hp=>hp
 cases k with
 | true=>exact ⟨s.toks,fun Q E q=>in_listAt _ (PL.isList ia) ev (by rw [anyE]; exact q),fun Q E q=>notIn_listAt _ (PL.isList ia) ev (by rw [anyE]; exact q)⟩
 | false=>exact ⟨s.toks,fun Q E q=>in_tupleAt _ (PT.isTuple ia) ev (by rw [anyE]; exact q),fun Q E q=>notIn_tupleAt _ (PT.isTuple ia) ev (by rw [anyE]; exact q)⟩
theorem in_txt {x y:List Nat} {c:Nat} (hx:x = [c]) (hX:VRel t s.heap (.str x) v) (hY:VRel t s.heap (.str y) w):InBoth G A s v w (decide (c ∈ y)):=by
 subst hx
 obtain ⟨k1,rfl⟩:=hX
 obtain ⟨k2,rfl⟩:=hY
 have q:=StrLaws.found_one (toStr y) c
 have q2:(toStr y).cps.toList = y:=by simp
 rw [q2] at q
 exact ⟨s.toks,fun Q E h=>PyProof.Rows.in_str (by rw [q]; exact h),fun Q E h=>PyProof.Rows.notIn_str (by rw [q]; exact h)⟩
theorem in_dict (R:Rel G t st s) {x:List Nat} {r:Lbl} {dd:List (V × V)} (hX:VRel t s.heap (.str x) v) (hY:VRel t s.heap (.ref r) w) (hdd:st.heap r = some (.dict dd)):InBoth G A s v w (dfind (.str x) dd).isSome:=by
 obtain ⟨a,kvs,h1,h2,h3⟩:=R.objs r _ hdd
 obtain ⟨a',rfl,e2⟩:=hY
 rw [h1] at e2; cases e2
 have hsys:(a == sysModules) = false:=by simp only [beq_eq_false_iff_ne,ne_eq]; rintro rfl; exact R.sys r h1
 obtain ⟨k1,rfl⟩:=hX
 have f:=DRel.find (x:=x) h3
 have this:(valueAt kvs (toStr x)).isSome = (dfind (.str x) dd).isSome:=by
  cases q:dfind (.str x) dd with
  | none=>rw [q] at f; rw [f]; rfl
  | some z=>rw [q] at f; obtain ⟨y,e1,_⟩:=f; rw [e1]; rfl
 exact ⟨s.toks + 1,fun Q E h=>wpAny_in_of (strKind_is G.prog G.w (toStr x) k1) hsys h2.mapOf (by rw [this]; exact h),fun Q E h=>wpAny_notIn_of (strKind_is G.prog G.w (toStr x) k1) hsys h2.mapOf (by rw [this]; exact h)⟩
theorem memb_inv {b:Bool} (hb:cmpOp.memb X Y st = some b):(∃ k l,seqOf st Y = some (k,l) ∧ vin st X l = some b) ∨ (∃ c y,X = .str [c] ∧ Y = .str y ∧ b = decide (c ∈ y)) ∨ ∃ x r dd,X = .str x ∧ Y = .ref r ∧ st.heap r = some (.dict dd) ∧ b = (dfind (.str x) dd).isSome:=by
 unfold cmpOp.memb at hb
 cases hs:seqOf st Y with
 | some p=>rw [hs] at hb; exact .inl ⟨p.1,p.2,rfl,hb⟩
 | none =>
  rw [hs] at hb
  cases Y with
  | str y =>
   simp only at hb
   split at hb
   ·cases hb; exact .inr (.inl ⟨_,_,rfl,rfl,rfl⟩)
   ·exact no_none hb
  | ref r =>
   simp only at hb
   split at hb
   ·rename_i dd hdd
    split at hb
    ·rename_i hk
     cases hb
     cases X with
     | str x=>exact .inr (.inr ⟨x,r,dd,rfl,rfl,hdd,rfl⟩)
     | _=>exact no_ft hk
    ·exact no_none hb
   ·exact no_none hb
  | _=>exact no_none hb
theorem memb_sound (R:Rel G t st s) (hA:AOk d A) (hX:VRel t s.heap X v) (hY:VRel t s.heap Y w) {b:Bool} (hb:cmpOp.memb X Y st = some b):InBoth G A s v w b:=by
 rcases memb_inv hb with ⟨k,l,h1,h2⟩ | ⟨c,y,rfl,rfl,rfl⟩ | ⟨x,r,dd,rfl,rfl,h1,rfl⟩
 ·exact in_seq R hA hX hY h1 h2
 ·exact in_txt rfl hX hY
 ·exact in_dict R hX hY h1
theorem cmp_sound {o:Cop} (R:Rel G t st s) (hA:AOk d A) (hX:VRel t s.heap X v) (hY:VRel t s.heap Y w) (e:cmpOp o X Y st = .ok Z st'):Sim G A t s (compareOp (cmpOf o) v w) st' (vrel Z):=by
 have plain:∀ {op:CmpOp} {b:Bool},(∀ (Q:Value → Shared → Prop) (E:Value → Shared → Prop),Q (.bool b) s → wpAny G.M A (compareOp op v w) Q E s) → Sim G A t s (compareOp op v w) st (vrel (.bool b)) :=
  fun h Q E k=>h Q E (k _ t s (.refl _ _ _) R rfl)
 have okB':∀ {o:Option Bool},okB st o = .ok Z st' → ∃ b,o = some b ∧ Z = .bool b ∧ st' = st:=by
  intro o h; cases o with | none=>cases h | some b=>cases h; exact ⟨b,rfl,rfl,rfl⟩
 have intsW:∀ {f:Int → Int → Bool},(match X,Y with | .int x,.int y=>Res.ok (V.bool (f x y)) st | _,_=>Res.stuck) = .ok Z st' → ∃ x y k1 k2,v = .int x k1 ∧ w = .int y k2 ∧ Z = .bool (f x y) ∧ st' = st:=by
  intro f h
  split at h
  ·cases h; obtain ⟨k1,rfl⟩:=hX; obtain ⟨k2,rfl⟩:=hY; exact ⟨_,_,k1,k2,rfl,rfl,rfl,rfl⟩
  ·exact no_stuck h
 cases o with
 | eq =>
  obtain ⟨b,h1,rfl,rfl⟩:=okB' e
  exact plain fun Q E q=>(rc_sound R h1 hX hY hA.u12).1 _ _ _ _ q
 | ne =>
  obtain ⟨b,h1,rfl,rfl⟩:=okB' e
  obtain ⟨b',h2,rfl⟩:=Option.map_eq_some_iff.mp h1
  exact plain fun Q E q=>(rc_sound R h2 hX hY hA.u12).2 _ _ _ _ q
 | lt=>obtain ⟨x,y,k1,k2,rfl,rfl,rfl,rfl⟩:=intsW (f:=fun x y=>decide (x < y)) e; exact plain fun Q E q=>PyProof.Rows.lt_int q
 | le=>obtain ⟨x,y,k1,k2,rfl,rfl,rfl,rfl⟩:=intsW (f:=fun x y=>decide (x ≤ y)) e; exact plain fun Q E q=>PyProof.Rows.le_int q
 | gt=>obtain ⟨x,y,k1,k2,rfl,rfl,rfl,rfl⟩:=intsW (f:=fun x y=>decide (y < x)) e; exact plain fun Q E q=>PyProof.Rows.gt_int q
 | ge=>obtain ⟨x,y,k1,k2,rfl,rfl,rfl,rfl⟩:=intsW (f:=fun x y=>decide (y ≤ x)) e; exact plain fun Q E q=>PyProof.Rows.ge_int q
 | isin =>
  obtain ⟨b,h1,rfl,rfl⟩:=okB' e
  obtain ⟨tk,h,-⟩:=memb_sound R hA hX hY h1
  exact fun Q E k=>h Q E (k _ t _ (Step.toks _ t s tk) (R.toks tk) rfl)
 | notin =>
  obtain ⟨b,h1,rfl,rfl⟩:=okB' e
  obtain ⟨b',h2,rfl⟩:=Option.map_eq_some_iff.mp h1
  obtain ⟨tk,-,h⟩:=memb_sound R hA hX hY h2
  exact fun Q E k=>h Q E (k _ t _ (Step.toks _ t s tk) (R.toks tk) rfl)
end
end Mine
end
section
namespace Mine
open PySem PySem.W PyProof.Rows PySem.SeqAt
section
variable {G:Gd} {N:Names} {C:Calls} {d:Dp} {sc:Sc} {Γ:Gam} {t:Tie} {st st':MS} {s:Shared} {A:Around} {X Y Z:V} {v w:Value}
theorem size_none (h:Heap):h.get? h.objs.size = none:=by
 cases e:h.get? h.objs.size with
 | none=>rfl
 | some o=>exact absurd (Heap.lt_size e) (Nat.lt_irrefl _)
theorem Rel.push (R:Rel G t st s) (o:Obj):Rel G t st { s with heap:=s.heap.push o }:=R.grow (fun _ _ e=>Heap.get?_push_of_some o e) rfl rfl
theorem Step.push (R:Rel G t st s) (o:Obj):Step noX t t s { s with heap:=s.heap.push o }:=Step.grow R (fun _ _ e=>Heap.get?_push_of_some o e) rfl rfl
theorem VRel.newL (R:Rel G t st s) {l:List V} {vs:List Value} (r:VRels t s.heap l vs) (sz:l.length ≤ sizeMax):VRel t (s.heap.push { cls:=.type "list",data:=.seq vs.toArray }) (.lst l) (.ref s.heap.objs.size) :=
 ⟨_,vs.toArray,rfl,⟨_,Heap.get?_push_size _ rfl⟩,R.fresh (size_none _),sz,VRels.step (σ':={ s with heap:=s.heap.push _ }) (Step.push R _) (fun _ q=>q.elim) l r⟩
theorem VRel.newT (R:Rel G t st s) {l:List V} {vs:List Value} (r:VRels t s.heap l vs) (sz:l.length ≤ sizeMax):VRel t (s.heap.push { cls:=.type "tuple",data:=.seq vs.toArray }) (.tup l) (.ref s.heap.objs.size) :=
 ⟨_,vs.toArray,rfl,⟨_,Heap.get?_push_size _ rfl⟩,R.fresh (size_none _),sz,VRels.step (σ':={ s with heap:=s.heap.push _ }) (Step.push R _) (fun _ q=>q.elim) l r⟩
theorem Sim.newL (R:Rel G t st s) {l:List V} {vs:List Value} (r:VRels t s.heap l vs) (sz:l.length ≤ sizeMax) {tree:Sem Value}
  (h:∀ (Q:Value → Shared → Prop) (E:Value → Shared → Prop),Q (.ref s.heap.objs.size) { s with heap:=s.heap.push { cls:=.type "list",data:=.seq vs.toArray } } → wpAny G.M A tree Q E s):Sim G A t s tree st (vrel (.lst l)) :=
 fun Q E k=>h Q E (k _ t _ (Step.push R _) (R.push _) (VRel.newL R r sz))
theorem Sim.newT (R:Rel G t st s) {l:List V} {vs:List Value} (r:VRels t s.heap l vs) (sz:l.length ≤ sizeMax) {tree:Sem Value}
  (h:∀ (Q:Value → Shared → Prop) (E:Value → Shared → Prop),Q (.ref s.heap.objs.size) { s with heap:=s.heap.push { cls:=.type "tuple",data:=.seq vs.toArray } } → wpAny G.M A tree Q E s):Sim G A t s tree st (vrel (.tup l)) :=
 fun Q E k=>h Q E (k _ t _ (Step.push R _) (R.push _) (VRel.newT R r sz))
theorem intBits_eq (i:Int):intBits i = Builtin.Int.intBits i:=by
 unfold intBits Builtin.Int.intBits
 simp only [beq_iff_eq]
theorem mulOk_real {a b:Int} (h:mulOk a b = true):IntMulOk a b:=by
 simp only [mulOk,Bool.or_eq_true,decide_eq_true_eq] at h
 rcases h with (h | h) | h
 ·exact IntMulOk.of_left (by rw [← intBits_eq]; exact h)
 ·exact IntMulOk.of_right (by rw [← intBits_eq]; exact h)
 ·exact mulOk_of_bits (m:=intBits a) (n:=intBits b) (by rw [intBits_eq]; exact Nat.le_refl _) (by rw [intBits_eq]; exact Nat.le_refl _) h
theorem noPylong {x y:Int} (h:¬ 64 < intBits y):Builtin.divisionGoesByPylong x y = false:=by
 unfold Builtin.divisionGoesByPylong
 dsimp only
 have:¬ ((if (y == 0) = true then 0 else y.natAbs.log2 / 30 + 1) > 300):=by
  unfold intBits at h
  split
  ·lia
  ·rename_i q
   rw [if_neg (by simpa using q)] at h
   lia
 rw [decide_eq_false this]; rfl
theorem seqAdd_sound (R:Rel G t st s) (hX:VRel t s.heap X v) (hY:VRel t s.heap Y w) (e:seqAdd X Y st = .ok Z st'):Sim G A t s (binaryOp .Add v w) st' (vrel Z):=by
 unfold seqAdd at e
 split at e
 ·rename_i p q h1 h2
  obtain ⟨ka,x⟩:=p
  obtain ⟨kb,y⟩:=q
  split at e
  ·rename_i hm
   cases e
   obtain ⟨rfl,hz⟩:=hm
   obtain ⟨aa,vs,rfl,ia,ra,_⟩:=seqOf_real R hX h1
   obtain ⟨bb,ws,rfl,ib,rb,_⟩:=seqOf_real R hY h2
   have e1:(vs ++ ws) = (vs.toList ++ ws.toList).toArray:=by simp
   have hls:vs.size = x.length:=by rw [← ra.length]; simp
   have hlb:ws.size = y.length:=by rw [← rb.length]; simp
   have hsz:vs.size + ws.size ≤ sizeLine:=by rw [hls,hlb]; exact hz
   dsimp only at ia ib ⊢
   cases ka with
   | true =>
    simp only [if_true] at ia ib ⊢
    obtain ⟨n,ha⟩:=ia
    obtain ⟨n2,hb⟩:=ib
    refine Sim.newL R (ra.append rb) (by rw [List.length_append]; exact hz) fun Q E q=>P.add_list ha hb (by rw [e1]; exact q) hsz
   | false =>
    simp only [Bool.false_eq_true,if_false] at ia ib ⊢
    obtain ⟨n,ha⟩:=ia
    obtain ⟨n2,hb⟩:=ib
    have hX':VRel t s.heap (.tup x) (.ref aa):=by
     cases X with
     | tup m=>cases h1; exact hX
     | lst m=>cases h1
     | ref r=>simp only [seqOf] at h1; split at h1 <;> cases h1
     | _=>exact no_none h1
    have hY':VRel t s.heap (.tup y) (.ref bb):=by
     cases Y with
     | tup m=>cases h2; exact hY
     | lst m=>cases h2
     | ref r=>simp only [seqOf] at h2; split at h2 <;> cases h2
     | _=>exact no_none h2
    by_cases q1:vs.isEmpty = true
    ·have:x = []:=by
      have:vs = #[]:=by simpa using q1
      subst this; exact List.length_eq_zero_iff.mp hls.symm
     subst this
     intro Q E k
     exact concat_meets ⟨_,ha,rfl⟩ ⟨_,hb,rfl⟩ noFill_tuple_add seq_tuple_add PySem.F.slot_tuple_add PySem.F.entry_tuple_add (PySem.F.args_tuple_add_2 _ _)
      (tuple_addW0 aa bb vs ws n n2 none none #[] #[] q1) ⟨ha,hb,k _ t s (.refl _ _ _) R hY'⟩
    ·by_cases q2:ws.isEmpty = true
     ·have:y = []:=by
       have:ws = #[]:=by simpa using q2
       subst this; exact List.length_eq_zero_iff.mp hlb.symm
      subst this
      intro Q E k
      exact concat_meets ⟨_,ha,rfl⟩ ⟨_,hb,rfl⟩ noFill_tuple_add seq_tuple_add PySem.F.slot_tuple_add PySem.F.entry_tuple_add (PySem.F.args_tuple_add_2 _ _)
       (tuple_addW1 aa bb vs ws n n2 none none #[] #[] q1 q2) ⟨ha,hb,k _ t s (.refl _ _ _) R (by rw [List.append_nil]; exact hX')⟩
     ·refine Sim.newT R (ra.append rb) (by rw [List.length_append]; exact hz) fun Q E q=>P.add_tuple ha hb q1 q2 (by rw [e1]; exact q) hsz
  ·exact no_stuck e
 ·exact no_stuck e
theorem p27:(2:Int) ^ 27 = 134217728:=by decide
theorem addS_sound {x y:List Nat} (R:Rel G t st s) (hX:VRel t s.heap (.str x) v) (hY:VRel t s.heap (.str y) w) (hm:x.length + y.length ≤ sizeMax):Sim G A t s (binaryOp .Add v w) st (vrel (.str (x ++ y))):=by
 obtain ⟨k1,rfl⟩:=hX; obtain ⟨k2,rfl⟩:=hY
 intro Q E k
 refine PyProof.Rows.add_str (fun t' tk=>?_) ?_
 ·refine k _ t _ (Step.toks _ t s tk) (R.toks tk) ⟨t',?_⟩
  show Value.str (Str.mk x.toArray ++ Str.mk y.toArray) t' = _
  congr 1
  show Str.mk (x.toArray ++ y.toArray) = _
  simp
 ·simpa [Str.length,sizeMax,sizeLine] using hm
theorem bin_sound {o:Bop} (O:G.Ok N) (R:Rel G t st s) (hA:AOk d A) (hX:VRel t s.heap X v) (hY:VRel t s.heap Y w) (e:binOp o X Y st = .ok Z st'):Sim G A t s (binaryOp (opOf o) v w) st' (vrel Z):=by
 have flat:∀ {op:Operator} {x y z:Int},(∀ (k1 k2:Tok) (Q:Value → Shared → Prop) (E:Value → Shared → Prop),Q (.int z s.toks) { s with toks:=s.toks + 1 } → wpAny G.M A (binaryOp op (.int x k1) (.int y k2)) Q E s) → VRel t s.heap (.int x) v → VRel t s.heap (.int y) w → Sim G A t s (binaryOp op v w) st (vrel (.int z)):=by
  rintro op x y z h ⟨k1,rfl⟩ ⟨k2,rfl⟩ Q E k
  exact h k1 k2 Q E (k _ t _ (Step.toks _ t s _) (R.toks _) ⟨_,rfl⟩)
 have addI:int2 X Y (fun x y=>.ok (.int (x + y)) st) = .ok Z st' → Sim G A t s (binaryOp .Add v w) st' (vrel Z):=by
  intro e
  obtain ⟨x,y,rfl,rfl,e⟩:=int2_ok e
  cases e
  exact flat (fun _ _ Q E q=>PyProof.Rows.add_int q) hX hY
 have mulI:int2 X Y (fun x y=>if mulOk x y then .ok (.int (x * y)) st else .stuck) = .ok Z st' → Sim G A t s (binaryOp .Mult v w) st' (vrel Z):=by
  intro e
  obtain ⟨x,y,rfl,rfl,e⟩:=int2_ok e
  obtain ⟨hm,rfl,rfl⟩:=ite_ok e
  exact flat (fun _ _ Q E q=>PyProof.Rows.mul_int q (mulOk_real hm)) hX hY
 cases o with
 | add =>
  cases X with
  | int x=>exact addI e
  | str x =>
   obtain ⟨x,y,ex,rfl,e⟩:=str2_ok (a:=.str x) (b:=Y) (f:=fun x y=>if x.length + y.length ≤ sizeMax then .ok (.str (x ++ y)) st else .stuck) e
   obtain ⟨hm,rfl,rfl⟩:=ite_ok e
   cases ex
   exact addS_sound R hX hY hm
  | _=>exact seqAdd_sound R hX hY e
 | sub =>
  obtain ⟨x,y,rfl,rfl,e⟩:=int2_ok e
  cases e
  exact flat (fun _ _ Q E q=>PyProof.Rows.sub_int q) hX hY
 | mul=>exact mulI e
 | fdiv =>
  obtain ⟨x,y,rfl,rfl,e⟩:=int2_ok e
  obtain ⟨hm,rfl,rfl⟩:=ite_no e
  exact flat (fun _ _ Q E q=>PyProof.Rows.floordiv_int (fun z=>hm (.inl z)) q (.inl (noPylong fun z=>hm (.inr z)))) hX hY
 | mod =>
  obtain ⟨x,y,rfl,rfl,e⟩:=int2_ok e
  obtain ⟨hm,rfl,rfl⟩:=ite_no e
  exact flat (fun _ _ Q E q=>PyProof.Rows.mod_int' hm q) hX hY
 | pow =>
  obtain ⟨x,y,rfl,rfl,e⟩:=int2_ok e
  obtain ⟨hm,rfl,rfl⟩:=ite_ok e
  exact flat (fun _ _ Q E q=>PyProof.Rows.pow_int hm.1 (by rw [← intBits_eq,p27]; exact hm.2) q) hX hY
end
end Mine
end
section
namespace Mine
open PySem PySem.W PyProof.Rows PySem.SeqAt
section
variable {G:Gd} {N:Names} {C:Calls} {d:Dp} {sc:Sc} {Γ:Gam}
theorem truth_ok {X:V} {st st':MS} {b:Bool} (e:truth X st = .ok b st'):X = .bool b ∧ st' = st:=by
 cases X <;> first | (cases e; exact ⟨rfl,rfl⟩) | exact no_stuck e
theorem sim_neg {a:E} {x:PySem.Expr} {pos:Pos} (ha:SimE G C d sc Γ a x):SimE G C d sc Γ (.neg a) (.UnaryOp .USub x pos):=by
 intro t st s env loc X st' A hA hsc F R e Q E k
 rw [ev_neg] at e
 obtain ⟨v,s1,e1,e⟩:=Res.bind_ok e
 split at e
 ·cases e
  refine wpAny_UnaryOp (ha t st s env loc _ _ A hA hsc F R e1 _ _ fun y t1 σ1 S1 R1 r1=>?_)
  obtain ⟨k1,rfl⟩:=r1
  exact neg_int (k _ t1 _ (S1.trans (Step.toks _ t1 σ1 _)) (R1.toks _) ⟨_,rfl⟩)
 ·exact no_stuck e
theorem sim_not {a:E} {x:PySem.Expr} {pos:Pos} (ha:SimE G C d sc Γ a x):SimE G C d sc Γ (.not a) (.UnaryOp .Not x pos):=by
 intro t st s env loc X st' A hA hsc F R e Q E k
 rw [ev_not] at e
 obtain ⟨v,s1,e1,e⟩:=Res.bind_ok e
 obtain ⟨b,s2,e2,e⟩:=Res.bind_ok e
 obtain ⟨rfl,rfl⟩:=truth_ok e2
 cases e
 refine wpAny_UnaryOp (ha t st s env loc _ _ A hA hsc F R e1 _ _ fun y t1 σ1 S1 R1 r1=>?_)
 cases r1
 exact not_of (wpAny_truthy_bool (k _ t1 _ S1 R1 rfl))
theorem sim_bin (O:G.Ok N) {o:Bop} {a b:E} {x y:PySem.Expr} {pos:Pos} (ha:SimE G C d sc Γ a x) (hb:SimE G C d sc Γ b y):SimE G C d sc Γ (.bin o a b) (.BinOp x (opOf o) y pos):=by
 intro t st s env loc X st' A hA hsc F R e Q E k
 rw [ev_bin] at e
 obtain ⟨v1,s1,e1,e⟩:=Res.bind_ok e
 obtain ⟨v2,s2,e2,e⟩:=Res.bind_ok e
 refine wpAny_BinOp (ha t st s env loc _ _ A hA hsc F R e1 _ _ fun u t1 σ1 S1 R1 r1=>?_)
 refine hb t1 s1 σ1 env loc _ _ A hA hsc (F.step R S1) R1 e2 _ _ fun w t2 σ2 S2 R2 r2=>?_
 exact bin_sound O R2 hA (VRel.step S2 (fun _ z=>z.elim) _ r1) r2 e _ _ fun z t3 σ3 S3 R3 r3=>k z t3 σ3 ((S1.trans S2).trans S3) R3 r3
theorem sim_cmp {o:Cop} {a b:E} {x y:PySem.Expr} {pos:Pos} (hm:behindInMarks (cmpOf o) y = false) (ha:SimE G C d sc Γ a x) (hb:SimE G C d sc Γ b y):SimE G C d sc Γ (.cmp a o b) (.Compare x [cmpOf o] [y] pos):=by
 intro t st s env loc X st' A hA hsc F R e Q E k
 rw [ev_cmp] at e
 obtain ⟨v1,s1,e1,e⟩:=Res.bind_ok e
 obtain ⟨v2,s2,e2,e⟩:=Res.bind_ok e
 refine wpAny_Compare1 (ha t st s env loc _ _ A hA hsc F R e1 _ _ fun u t1 σ1 S1 R1 r1=>?_) hm
 refine hb t1 s1 σ1 env loc _ _ A hA hsc (F.step R S1) R1 e2 _ _ fun w t2 σ2 S2 R2 r2=>?_
 exact cmp_sound R2 hA (VRel.step S2 (fun _ z=>z.elim) _ r1) r2 e _ _ fun z t3 σ3 S3 R3 r3=>k z t3 σ3 ((S1.trans S2).trans S3) R3 r3
theorem chain2 (pos:Pos) (left:Value) (op op2:CmpOp) (r r2:Sem Value):compareChain pos left [op,op2] [r,r2] = (do
  let rv ← holding [left] r
  standAt pos
  let c ← holding [left,rv] (compareOp op left rv)
  release [left,rv] [c]
  if ← holding [c,rv] (truthy c) then compareChain pos rv [op2] [r2] else pure c):=rfl
theorem chain1 (pos:Pos) (left:Value) (op:CmpOp) (r:Sem Value):compareChain pos left [op] [r] = (do
  let rv ← holding [left] r
  standAt pos
  operate [left,rv] (compareOp op left rv)):=rfl
theorem sim_cmp2 {o o2:Cop} {a b c:E} {x y z:PySem.Expr} {pos:Pos} (hm:behindInMarks (cmpOf o2) z = false) (ha:SimE G C d sc Γ a x) (hb:SimE G C d sc Γ b y) (hc:SimE G C d sc Γ c z) :
  SimE G C d sc Γ (.cmp2 a o b o2 c) (.Compare x [cmpOf o,cmpOf o2] [y,z] pos):=by
 intro t st s env loc X st' A hA hsc F R e Q E k
 rw [ev_cmp2] at e
 obtain ⟨v1,s1,e1,e⟩:=Res.bind_ok e
 obtain ⟨v2,s2,e2,e⟩:=Res.bind_ok e
 obtain ⟨v3,s3,e3,e⟩:=Res.bind_ok e
 obtain ⟨b3,s4,e4,ee⟩:=Res.bind_ok e
 obtain ⟨rfl,rfl⟩:=truth_ok e4
 have mk:markedEach [cmpOf o,cmpOf o2] [y,z] (evalEach [y,z] env) = [eval y env,eval z env]:=by
  show eval y env :: [markedBehindIn (cmpOf o2) z (eval z env)] = _
  rw [markedBehindIn_of_false hm]
 show wpAny G.M A (do compareChain pos (← eval x env) [cmpOf o,cmpOf o2] (markedEach [cmpOf o,cmpOf o2] [y,z] (evalEach [y,z] env))) Q E s
 rw [mk]
 refine wpAny_bind (ha t st s env loc _ _ A hA hsc F R e1 _ _ fun u t1 σ1 S1 R1 r1=>?_)
 rw [chain2]
 refine wpAny_bind (wpAny_holding (hb t1 s1 σ1 env loc _ _ A hA hsc (F.step R S1) R1 e2 _ _ fun w t2 σ2 S2 R2 r2=>?_))
 refine wpAny_bind (wpAny_standAt (wpAny_bind (wpAny_holding ?_)))
 refine cmp_sound R2 hA (VRel.step S2 (fun _ z=>z.elim) _ r1) r2 e3 _ _ fun q t3 σ3 S3 R3 r3=>?_
 cases r3
 refine wpAny_bind (wpAny_release (wpAny_bind (wpAny_holding (wpAny_truthy_bool ?_))))
 cases b3 with
 | false =>
  simp only [Bool.false_eq_true,if_false] at ee ⊢
  cases ee
  exact wpAny_pure (k _ t3 σ3 ((S1.trans S2).trans S3) R3 rfl)
 | true =>
  simp only [if_true] at ee ⊢
  obtain ⟨v5,s5,e5,e6⟩:=Res.bind_ok ee
  rw [chain1]
  refine wpAny_bind (wpAny_holding (hc t3 _ σ3 env loc _ _ A hA hsc (((F.step R S1).step R1 S2).step R2 S3) R3 e5 _ _ fun w' t4 σ4 S4 R4 r4=>?_))
  refine wpAny_bind (wpAny_standAt (wpAny_operating ?_))
  exact cmp_sound R4 hA (VRel.step (S3.trans S4) (fun _ z=>z.elim) _ r2) r4 e6 _ _ fun z t5 σ5 S5 R5 r5=>k z t5 σ5 ((((S1.trans S2).trans S3).trans S4).trans S5) R5 r5
theorem VRel.notB {t:Tie} {h:Heap} {X:V} {v:Value} (r:VRel t h X v):∀ i,v ≠ .builtin i:=by
 intro i q
 subst q
 cases X with
 | none=>cases r
 | bool=>cases r
 | int=>obtain ⟨_,e⟩:=r; cases e
 | str=>obtain ⟨_,e⟩:=r; cases e
 | tup=>obtain ⟨_,_,e,_⟩:=r; cases e
 | lst=>obtain ⟨_,_,e,_⟩:=r; cases e
 | ref=>obtain ⟨_,e,_⟩:=r; cases e
 | exc=>obtain ⟨_,_,e,_⟩:=r; cases e
theorem sim_isN {n:Bool} {a:E} {x:PySem.Expr} {p:CmpOp} {pos p2:Pos} {j:Nat} (hp:isNot p n = true) (ha:SimE G C d sc Γ a x):SimE G C d sc Γ (.isC n a .none) (.Compare x [p] [.Constant .none j p2] pos):=by
 intro t st s env loc X st' A hA hsc F R e Q E k
 rw [ev_isC] at e
 obtain ⟨v,s1,e1,e⟩:=Res.bind_ok e
 cases e
 refine wpAny_Compare1 (ha t st s env loc _ _ A hA hsc F R e1 _ _ fun u t1 σ1 S1 R1 r1=>?_) rfl
 refine wpAny_Constant_none ?_
 have key:(u == Value.none) = decide (v = .none):=by
  cases v with
  | none=>cases r1; (first | exact (decide_eq_true rfl).symm | exact (decide_eq_false nofun).symm)
  | bool=>cases r1; (first | exact (decide_eq_true rfl).symm | exact (decide_eq_false nofun).symm)
  | int=>obtain ⟨_,rfl⟩:=r1; (first | exact (decide_eq_true rfl).symm | exact (decide_eq_false nofun).symm)
  | str=>obtain ⟨_,rfl⟩:=r1; (first | exact (decide_eq_true rfl).symm | exact (decide_eq_false nofun).symm)
  | tup=>obtain ⟨_,_,rfl,_⟩:=r1; (first | exact (decide_eq_true rfl).symm | exact (decide_eq_false nofun).symm)
  | lst=>obtain ⟨_,_,rfl,_⟩:=r1; (first | exact (decide_eq_true rfl).symm | exact (decide_eq_false nofun).symm)
  | ref=>obtain ⟨_,rfl,_⟩:=r1; (first | exact (decide_eq_true rfl).symm | exact (decide_eq_false nofun).symm)
  | exc=>obtain ⟨_,_,rfl,_⟩:=r1; (first | exact (decide_eq_true rfl).symm | exact (decide_eq_false nofun).symm)
 cases p <;> simp only [isNot] at hp <;> (try contradiction)
 ·have:n = false:=by simpa using hp
  subst this
  exact is_none (k _ t1 _ S1 R1 (by rw [key]; show Value.bool _ = Value.bool _; congr 1; cases decide (v = V.none) <;> rfl))
 ·have:n = true:=hp
  subst this
  exact isNot_none (k _ t1 _ S1 R1 (by rw [key]; show Value.bool _ = Value.bool _; congr 1; cases decide (v = V.none) <;> rfl))
theorem sim_tup {l:List E} {m:List PySem.Expr} {j:Nat} {pos:Pos} (h:SimEs G C d sc Γ l m):SimE G C d sc Γ (.tup l) (.Tuple m j pos):=by
 intro t st s env loc X st' A hA hsc F R e Q E k
 rw [ev_tup] at e
 obtain ⟨vs,s1,e1,e⟩:=Res.bind_ok e
 split at e
 ·rename_i hz
  cases e
  refine wpAny_Tuple (h pos t st s env loc _ _ A hA hsc F R e1 _ _ fun ys t1 σ1 S1 R1 r1=>⟨by rw [r1.length]; exact hz,?_⟩)
  exact k _ t1 _ (S1.trans (Step.push R1 _)) (R1.push _) (VRel.newT R1 r1 hz)
 ·exact no_stuck e
theorem sim_lst {l:List E} {m:List PySem.Expr} {pos:Pos} (h:SimEs G C d sc Γ l m):SimE G C d sc Γ (.lst l) (.List m pos):=by
 intro t st s env loc X st' A hA hsc F R e Q E k
 rw [ev_lst] at e
 obtain ⟨vs,s1,e1,e⟩:=Res.bind_ok e
 split at e
 ·rename_i hz
  cases e
  refine wpAny_List (h pos t st s env loc _ _ A hA hsc F R e1 _ _ fun ys t1 σ1 S1 R1 r1=>⟨by rw [r1.length]; exact hz,?_⟩)
  exact k _ t1 _ (S1.trans (Step.push R1 _)) (R1.push _) (VRel.newL R1 r1 hz)
 ·exact no_stuck e
theorem Rel.size_sys (O:G.Ok N) {t:Tie} {st:MS} {s:Shared} (R:Rel G t st s):s.heap.objs.size ≠ sysModules:=by
 obtain ⟨mc,⟨o,es,ep,ho,_⟩,_⟩:=O.lim
 have:=Heap.lt_size (R.base _ _ ho)
 intro q
 rw [q] at this
 exact absurd this (by decide)
theorem sim_lstM (O:G.Ok N) {kd:Nat} {l:List E} {m:List PySem.Expr} {pos:Pos} (h:SimEs G C d sc Γ l m):SimE G C d sc Γ (.lstM kd l) (.List m pos):=by
 intro t st s env loc X st' A hA hsc F R e Q E k
 rw [ev_lstM] at e
 obtain ⟨vs,s1,e1,e⟩:=Res.bind_ok e
 split at e
 ·rename_i hz
  cases e
  refine wpAny_List (h pos t st s env loc _ _ A hA hsc F R e1 _ _ fun ys t1 σ1 S1 R1 r1=>⟨by rw [r1.length]; exact hz,?_⟩)
  have S2:=Step.bind (k:=kd) (d:=none) (s':={ σ1 with heap:=σ1.heap.push { cls:=.type "list",data:=.seq ys.toArray } }) R1 (fun _ _ e=>Heap.get?_push_of_some _ e) rfl rfl (size_none _) (fun x e=>by exact no_none e)
  have rho:(t1.bind (kd,s1.cnt kd) σ1.heap.objs.size none).ρ (kd,s1.cnt kd) = some σ1.heap.objs.size:=by simp [Tie.bind]
  refine k _ _ _ (S1.trans S2) (Rel.bind R1 (fun _ _ e=>Heap.get?_push_of_some _ e) rfl rfl (size_none _) (fun x e=>by exact no_none e) ?_ (R1.size_sys O) ⟨_,ys.toArray,rho,⟨_,Heap.get?_push_size _ rfl⟩,hz,VRels.step S2 (fun _ q=>q.elim) _ r1⟩) ⟨_,rfl,rho⟩
  show ((σ1.heap.push _).get? _).isSome = true; rw [Heap.get?_push_size _ rfl]; rfl
 ·exact no_stuck e
end
end Mine
end
section
namespace Mine
open PySem PySem.W PyProof.Rows PySem.SeqAt
noncomputable def SimT (G:Gd) (C:Calls) (d:Dp) (sc:Sc) (Γ:Gam) (e:E) (ast:PySem.Expr):Prop :=
 ∀ t st s env loc b st' A,AOk d A → env.scope.names = sc → FrOk G A t env Γ loc s → Rel G t st s → ev G.P C e loc st = .ok (.bool b) st' → Sim G A t s (isTrue ast env (eval ast env)) st' (fun _ _ b'=>b' = b)
inductive SimL (G:Gd) (C:Calls) (d:Dp) (sc:Sc) (Γ:Gam):List E → List PySem.Expr → Prop
 | nil:SimL G C d sc Γ [] []
 | cons {e:E} {l:List E} {x:PySem.Expr} {m:List PySem.Expr}:SimE G C d sc Γ e x → SimT G C d sc Γ e x → SimL G C d sc Γ l m → SimL G C d sc Γ (e :: l) (x :: m)
noncomputable def plainTest:PySem.Expr → Bool
 | .UnaryOp .Not _ _ | .BoolOp .. | .IfExp .. | .Compare ..=>false
 | _=>true
section
variable {G:Gd} {N:Names} {C:Calls} {d:Dp} {sc:Sc} {Γ:Gam}
set_option backward.match.sparseCases true in
theorem sim_and {pos:Pos}:∀ {l:List E} {m:List PySem.Expr},SimL G C d sc Γ l m → ∀ t st s env loc X st' A,AOk d A → env.scope.names = sc → FrOk G A t env Γ loc s → Rel G t st s → evAnd G.P C l loc st = .ok X st' →
  Sim G A t s (boolOp pos .And (evalEach m env)) st' (vrel X)
 | [],_,_=>by intro t st s env loc X st' A hA hsc F R e; simp only [evAnd_nil,evAnd_one,evAnd_cons] at e; exact no_stuck e
 | [e],_,.cons he _ .nil=>by
  intro t st s env loc X st' A hA hsc F R q Q E k
  simp only [evAnd_nil,evAnd_one,evAnd_cons] at q
  exact he t st s env loc X st' A hA hsc F R q Q E k
 | e :: e' :: l,_,.cons he _ (.cons (x:=x') (m:=m') he' ht' r)=>by
  intro t st s env loc X st' A hA hsc F R q Q E k
  simp only [evAnd_nil,evAnd_one,evAnd_cons] at q
  obtain ⟨v,s1,q1,q⟩:=Res.bind_ok q
  obtain ⟨b,s2,q2,qq⟩:=Res.bind_ok q
  obtain ⟨rfl,rfl⟩:=truth_ok q2
  show wpAny G.M A (do
   let v ← eval _ env
   standAt pos
   let t ← holding [v] (truthy v)
   match BoolOp.And,t with
   | .And,false | .Or,true=>pure v
   | _,_=>boolOp pos .And (evalEach (x' :: m') env)) Q E s
  refine wpAny_bind (he t st s env loc _ _ A hA hsc F R q1 _ _ fun u t1 σ1 S1 R1 r1=>?_)
  cases r1
  refine wpAny_bind (wpAny_standAt (wpAny_bind (wpAny_holding (wpAny_truthy_bool ?_))))
  cases b with
  | false=>simp only [Bool.false_eq_true,if_false] at qq; cases qq; exact wpAny_pure (k _ t1 σ1 S1 R1 rfl)
  | true =>
   simp only [if_true] at qq
   exact sim_and (.cons he' ht' r) t1 _ σ1 env loc X st' A hA hsc (F.step R S1) R1 qq Q E fun u t2 σ2 S2 R2 r2=>k u t2 σ2 (S1.trans S2) R2 r2
set_option backward.match.sparseCases true in
theorem sim_or {pos:Pos}:∀ {l:List E} {m:List PySem.Expr},SimL G C d sc Γ l m → ∀ t st s env loc X st' A,AOk d A → env.scope.names = sc → FrOk G A t env Γ loc s → Rel G t st s → evOr G.P C l loc st = .ok X st' →
  Sim G A t s (boolOp pos .Or (evalEach m env)) st' (vrel X)
 | [],_,_=>by intro t st s env loc X st' A hA hsc F R e; simp only [evOr_nil,evOr_one,evOr_cons] at e; exact no_stuck e
 | [e],_,.cons he _ .nil=>by
  intro t st s env loc X st' A hA hsc F R q Q E k
  simp only [evOr_nil,evOr_one,evOr_cons] at q
  exact he t st s env loc X st' A hA hsc F R q Q E k
 | e :: e' :: l,_,.cons he _ (.cons (x:=x') (m:=m') he' ht' r)=>by
  intro t st s env loc X st' A hA hsc F R q Q E k
  simp only [evOr_nil,evOr_one,evOr_cons] at q
  obtain ⟨v,s1,q1,q⟩:=Res.bind_ok q
  obtain ⟨b,s2,q2,qq⟩:=Res.bind_ok q
  obtain ⟨rfl,rfl⟩:=truth_ok q2
  show wpAny G.M A (do
   let v ← eval _ env
   standAt pos
   let t ← holding [v] (truthy v)
   match BoolOp.Or,t with
   | .And,false | .Or,true=>pure v
   | _,_=>boolOp pos .Or (evalEach (x' :: m') env)) Q E s
  refine wpAny_bind (he t st s env loc _ _ A hA hsc F R q1 _ _ fun u t1 σ1 S1 R1 r1=>?_)
  cases r1
  refine wpAny_bind (wpAny_standAt (wpAny_bind (wpAny_holding (wpAny_truthy_bool ?_))))
  cases b with
  | true=>simp only [if_true] at qq; cases qq; exact wpAny_pure (k _ t1 σ1 S1 R1 rfl)
  | false =>
   simp only [Bool.false_eq_true,if_false] at qq
   exact sim_or (.cons he' ht' r) t1 _ σ1 env loc X st' A hA hsc (F.step R S1) R1 qq Q E fun u t2 σ2 S2 R2 r2=>k u t2 σ2 (S1.trans S2) R2 r2
theorem simE_and {l:List E} {m:List PySem.Expr} {pos:Pos} (h:SimL G C d sc Γ l m):SimE G C d sc Γ (.and l) (.BoolOp .And m pos):=by
 intro t st s env loc X st' A hA hsc F R e
 rw [ev_and] at e
 exact sim_and h t st s env loc X st' A hA hsc F R e
theorem simE_or {l:List E} {m:List PySem.Expr} {pos:Pos} (h:SimL G C d sc Γ l m):SimE G C d sc Γ (.or l) (.BoolOp .Or m pos):=by
 intro t st s env loc X st' A hA hsc F R e
 rw [ev_or] at e
 exact sim_or h t st s env loc X st' A hA hsc F R e
theorem simT_plain {e:E} {x:PySem.Expr} (hx:plainTest x = true) (h:SimE G C d sc Γ e x):SimT G C d sc Γ e x:=by
 intro t st s env loc b st' A hA hsc F R q Q E k
 have he:isTrue x env (eval x env) = (do let v ← eval x env; standAt x.pos; holding [v] (truthy v)):=by
  cases x <;> first | rfl | (cases hx; done) | skip
  rename_i op _ _
  cases op <;> first | rfl | exact no_ft hx
 rw [he]
 refine wpAny_bind (h t st s env loc _ _ A hA hsc F R q _ _ fun u t1 σ1 S1 R1 r1=>?_)
 cases r1
 exact wpAny_bind (wpAny_standAt (wpAny_holding (wpAny_truthy_bool (k _ t1 σ1 S1 R1 rfl))))
theorem simT_not {a:E} {x:PySem.Expr} {pos:Pos} (ha:SimT G C d sc Γ a x):SimT G C d sc Γ (.not a) (.UnaryOp .Not x pos):=by
 intro t st s env loc b st' A hA hsc F R e Q E k
 rw [ev_not] at e
 obtain ⟨v,s1,e1,e⟩:=Res.bind_ok e
 obtain ⟨c,s2,e2,ee⟩:=Res.bind_ok e
 obtain ⟨rfl,rfl⟩:=truth_ok e2
 cases ee
 refine wpAny_isTrue_Not (ha t st s env loc _ _ A hA hsc F R e1 _ _ fun u t1 σ1 S1 R1 r1=>?_)
 subst r1
 exact k _ t1 σ1 S1 R1 rfl
theorem simT_and:∀ {l:List E} {m:List PySem.Expr},SimL G C d sc Γ l m → ∀ t st s env loc b st' A,AOk d A → env.scope.names = sc → FrOk G A t env Γ loc s → Rel G t st s → evAnd G.P C l loc st = .ok (.bool b) st' →
  Sim G A t s (PySem.allTrue .And m env) st' (fun _ _ b'=>b' = b)
 | [],_,_=>by intro t st s env loc X st' A hA hsc F R e; simp only [evAnd_nil,evAnd_one,evAnd_cons] at e; exact no_stuck e
 | [e],_,.cons (x:=x) he ht .nil=>by
  intro t st s env loc b st' A hA hsc F R q Q E k
  simp only [evAnd_nil,evAnd_one,evAnd_cons] at q
  refine wpAny_allTrue_And_cons (ht t st s env loc b st' A hA hsc F R q _ _ fun u t1 σ1 S1 R1 r1=>?_)
  subst r1
  cases u with
  | false=>exact k _ t1 σ1 S1 R1 rfl
  | true=>exact wpAny_allTrue_And_nil (k _ t1 σ1 S1 R1 rfl)
 | e :: e' :: l,_,.cons he ht (.cons (x:=x') (m:=m') he' ht' r)=>by
  intro t st s env loc b st' A hA hsc F R q Q E k
  simp only [evAnd_nil,evAnd_one,evAnd_cons] at q
  obtain ⟨v,s1,q1,q⟩:=Res.bind_ok q
  obtain ⟨c,s2,q2,qq⟩:=Res.bind_ok q
  obtain ⟨rfl,rfl⟩:=truth_ok q2
  refine wpAny_allTrue_And_cons (ht t st s env loc _ _ A hA hsc F R q1 _ _ fun u t1 σ1 S1 R1 r1=>?_)
  subst r1
  cases u with
  | false=>simp only [Bool.false_eq_true,if_false] at qq; cases qq; exact k _ t1 σ1 S1 R1 rfl
  | true =>
   simp only [if_true] at qq
   exact simT_and (.cons he' ht' r) t1 _ σ1 env loc b st' A hA hsc (F.step R S1) R1 qq Q E fun u t2 σ2 S2 R2 r2=>k u t2 σ2 (S1.trans S2) R2 r2
theorem simT_or:∀ {l:List E} {m:List PySem.Expr},SimL G C d sc Γ l m → ∀ t st s env loc b st' A,AOk d A → env.scope.names = sc → FrOk G A t env Γ loc s → Rel G t st s → evOr G.P C l loc st = .ok (.bool b) st' →
  Sim G A t s (PySem.allTrue .Or m env) st' (fun _ _ b'=>b' = b)
 | [],_,_=>by intro t st s env loc X st' A hA hsc F R e; simp only [evOr_nil,evOr_one,evOr_cons] at e; exact no_stuck e
 | [e],_,.cons (x:=x) he ht .nil=>by
  intro t st s env loc b st' A hA hsc F R q Q E k
  simp only [evOr_nil,evOr_one,evOr_cons] at q
  refine wpAny_allTrue_Or_cons (ht t st s env loc b st' A hA hsc F R q _ _ fun u t1 σ1 S1 R1 r1=>?_)
  subst r1
  cases u with
  | true=>exact k _ t1 σ1 S1 R1 rfl
  | false=>exact wpAny_allTrue_Or_nil (k _ t1 σ1 S1 R1 rfl)
 | e :: e' :: l,_,.cons he ht (.cons (x:=x') (m:=m') he' ht' r)=>by
  intro t st s env loc b st' A hA hsc F R q Q E k
  simp only [evOr_nil,evOr_one,evOr_cons] at q
  obtain ⟨v,s1,q1,q⟩:=Res.bind_ok q
  obtain ⟨c,s2,q2,qq⟩:=Res.bind_ok q
  obtain ⟨rfl,rfl⟩:=truth_ok q2
  refine wpAny_allTrue_Or_cons (ht t st s env loc _ _ A hA hsc F R q1 _ _ fun u t1 σ1 S1 R1 r1=>?_)
  subst r1
  cases u with
  | true=>simp only [if_true] at qq; cases qq; exact k _ t1 σ1 S1 R1 rfl
  | false =>
   simp only [Bool.false_eq_true,if_false] at qq
   exact simT_or (.cons he' ht' r) t1 _ σ1 env loc b st' A hA hsc (F.step R S1) R1 qq Q E fun u t2 σ2 S2 R2 r2=>k u t2 σ2 (S1.trans S2) R2 r2
theorem simTE_and {l:List E} {m:List PySem.Expr} {pos:Pos} (h:SimL G C d sc Γ l m):SimT G C d sc Γ (.and l) (.BoolOp .And m pos):=by
 intro t st s env loc X st' A hA hsc F R e
 rw [ev_and] at e
 exact simT_and h t st s env loc X st' A hA hsc F R e
theorem simTE_or {l:List E} {m:List PySem.Expr} {pos:Pos} (h:SimL G C d sc Γ l m):SimT G C d sc Γ (.or l) (.BoolOp .Or m pos):=by
 intro t st s env loc X st' A hA hsc F R e
 rw [ev_or] at e
 exact simT_or h t st s env loc X st' A hA hsc F R e
theorem testChain1 {M:Model} {A:Around} {E:Value → Shared → Prop} {s:Shared} {env:Env} {x y:PySem.Expr} {op:CmpOp} {pos:Pos} {Q:Bool → Shared → Prop} (hm:behindInMarks op y = false)
  (h:wpAny M A (eval x env) (fun a s₁=>wpAny M A (eval y env) (fun b s₂=>wpAny M A (compareOp op a b) (fun c s₃=>∃ z,c = .bool z ∧ Q z s₃) E s₂) E s₁) E s) :
  wpAny M A (isTrue (.Compare x [op] [y] pos) env (eval (.Compare x [op] [y] pos) env)) Q E s:=by
 refine wpAny_isTrue_Compare1 (wpAny_mono h (fun a s₁ h₁=>wpAny_mono h₁ (fun b s₂ h₂=>wpAny_mono h₂ (fun c s₃ h₃=>?_) fun _ _ e=>e) fun _ _ e=>e) fun _ _ e=>e) hm
 obtain ⟨z,rfl,hz⟩:=h₃
 exact wpAny_truthy_bool hz
theorem simT_cmp {o:Cop} {a b:E} {x y:PySem.Expr} {pos:Pos} (hm:behindInMarks (cmpOf o) y = false) (ha:SimE G C d sc Γ a x) (hb:SimE G C d sc Γ b y):SimT G C d sc Γ (.cmp a o b) (.Compare x [cmpOf o] [y] pos):=by
 intro t st s env loc c st' A hA hsc F R e Q E k
 rw [ev_cmp] at e
 obtain ⟨v1,s1,e1,e⟩:=Res.bind_ok e
 obtain ⟨v2,s2,e2,e⟩:=Res.bind_ok e
 refine testChain1 hm (ha t st s env loc _ _ A hA hsc F R e1 _ _ fun u t1 σ1 S1 R1 r1=>?_)
 refine hb t1 s1 σ1 env loc _ _ A hA hsc (F.step R S1) R1 e2 _ _ fun w t2 σ2 S2 R2 r2=>?_
 exact cmp_sound R2 hA (VRel.step S2 (fun _ z=>z.elim) _ r1) r2 e _ _ fun z t3 σ3 S3 R3 r3=>⟨c,r3,k c t3 σ3 ((S1.trans S2).trans S3) R3 rfl⟩
theorem test2 (pos:Pos) (left:Value) (op op2:CmpOp) (r r2:Sem Value):testChain pos left [op,op2] [r,r2] = (do
  let rv ← holding [left] r
  standAt pos
  let c ← holding [left,rv] (compareOp op left rv)
  release [left,rv] [c]
  if ← holding [c,rv] (truthy c) then testChain pos rv [op2] [r2] else pure false):=rfl
theorem test1 (pos:Pos) (left:Value) (op:CmpOp) (r:Sem Value):testChain pos left [op] [r] = (do
  let rv ← holding [left] r
  standAt pos
  let c ← operate [left,rv] (compareOp op left rv)
  holding [c] (truthy c)):=rfl
theorem simT_cmp2 {o o2:Cop} {a b c:E} {x y z:PySem.Expr} {pos:Pos} (hm:behindInMarks (cmpOf o2) z = false) (ha:SimE G C d sc Γ a x) (hb:SimE G C d sc Γ b y) (hc:SimE G C d sc Γ c z) :
  SimT G C d sc Γ (.cmp2 a o b o2 c) (.Compare x [cmpOf o,cmpOf o2] [y,z] pos):=by
 intro t st s env loc X st' A hA hsc F R e Q E k
 rw [ev_cmp2] at e
 obtain ⟨v1,s1,e1,e⟩:=Res.bind_ok e
 obtain ⟨v2,s2,e2,e⟩:=Res.bind_ok e
 obtain ⟨v3,s3,e3,e⟩:=Res.bind_ok e
 obtain ⟨b3,s4,e4,ee⟩:=Res.bind_ok e
 obtain ⟨rfl,rfl⟩:=truth_ok e4
 have mk:markedEach [cmpOf o,cmpOf o2] [y,z] (evalEach [y,z] env) = [eval y env,eval z env]:=by
  show eval y env :: [markedBehindIn (cmpOf o2) z (eval z env)] = _
  rw [markedBehindIn_of_false hm]
 show wpAny G.M A (do testChain pos (← eval x env) [cmpOf o,cmpOf o2] (markedEach [cmpOf o,cmpOf o2] [y,z] (evalEach [y,z] env))) Q E s
 rw [mk]
 refine wpAny_bind (ha t st s env loc _ _ A hA hsc F R e1 _ _ fun u t1 σ1 S1 R1 r1=>?_)
 rw [test2]
 refine wpAny_bind (wpAny_holding (hb t1 s1 σ1 env loc _ _ A hA hsc (F.step R S1) R1 e2 _ _ fun w t2 σ2 S2 R2 r2=>?_))
 refine wpAny_bind (wpAny_standAt (wpAny_bind (wpAny_holding ?_)))
 refine cmp_sound R2 hA (VRel.step S2 (fun _ z=>z.elim) _ r1) r2 e3 _ _ fun q t3 σ3 S3 R3 r3=>?_
 cases r3
 refine wpAny_bind (wpAny_release (wpAny_bind (wpAny_holding (wpAny_truthy_bool ?_))))
 cases b3 with
 | false =>
  simp only [Bool.false_eq_true,if_false] at ee ⊢
  cases ee
  exact wpAny_pure (k _ t3 σ3 ((S1.trans S2).trans S3) R3 rfl)
 | true =>
  simp only [if_true] at ee ⊢
  obtain ⟨v5,s5,e5,e6⟩:=Res.bind_ok ee
  rw [test1]
  refine wpAny_bind (wpAny_holding (hc t3 _ σ3 env loc _ _ A hA hsc (((F.step R S1).step R1 S2).step R2 S3) R3 e5 _ _ fun w' t4 σ4 S4 R4 r4=>?_))
  refine wpAny_bind (wpAny_standAt (wpAny_bind (wpAny_operating ?_)))
  refine cmp_sound R4 hA (VRel.step (S3.trans S4) (fun _ z=>z.elim) _ r2) r4 e6 _ _ fun z t5 σ5 S5 R5 r5=>?_
  cases r5
  exact wpAny_holding (wpAny_truthy_bool (k _ t5 σ5 ((((S1.trans S2).trans S3).trans S4).trans S5) R5 rfl))
theorem isN_op {n:Bool} {p:CmpOp} {A:Around} {t:Tie} {s:Shared} {v:V} {u:Value} {Q:Value → Shared → Prop} {E:Value → Shared → Prop} (hp:isNot p n = true) (r1:VRel t s.heap v u) (h:Q (.bool (decide (v = .none) != n)) s):wpAny G.M A (compareOp p u .none) Q E s:=by
 have key:(u == Value.none) = decide (v = .none):=by
  cases v with
  | none=>cases r1; (first | exact (decide_eq_true rfl).symm | exact (decide_eq_false nofun).symm)
  | bool=>cases r1; (first | exact (decide_eq_true rfl).symm | exact (decide_eq_false nofun).symm)
  | int=>obtain ⟨_,rfl⟩:=r1; (first | exact (decide_eq_true rfl).symm | exact (decide_eq_false nofun).symm)
  | str=>obtain ⟨_,rfl⟩:=r1; (first | exact (decide_eq_true rfl).symm | exact (decide_eq_false nofun).symm)
  | tup=>obtain ⟨_,_,rfl,_⟩:=r1; (first | exact (decide_eq_true rfl).symm | exact (decide_eq_false nofun).symm)
  | lst=>obtain ⟨_,_,rfl,_⟩:=r1; (first | exact (decide_eq_true rfl).symm | exact (decide_eq_false nofun).symm)
  | ref=>obtain ⟨_,rfl,_⟩:=r1; (first | exact (decide_eq_true rfl).symm | exact (decide_eq_false nofun).symm)
  | exc=>obtain ⟨_,_,rfl,_⟩:=r1; (first | exact (decide_eq_true rfl).symm | exact (decide_eq_false nofun).symm)
 cases p <;> simp only [isNot] at hp <;> (try contradiction)
 ·have:n = false:=by simpa using hp
  subst this
  exact is_none (by rw [key]; revert h; cases decide (v = V.none) <;> exact id)
 ·have:n = true:=hp
  subst this
  exact isNot_none (by rw [key]; revert h; cases decide (v = V.none) <;> exact id)
theorem simT_isN {n:Bool} {a:E} {x:PySem.Expr} {p:CmpOp} {pos p2:Pos} {j:Nat} (hp:isNot p n = true) (ha:SimE G C d sc Γ a x):SimT G C d sc Γ (.isC n a .none) (.Compare x [p] [.Constant .none j p2] pos):=by
 intro t st s env loc c st' A hA hsc F R e Q E k
 rw [ev_isC] at e
 obtain ⟨v,s1,e1,e⟩:=Res.bind_ok e
 cases e
 refine testChain1 rfl (ha t st s env loc _ _ A hA hsc F R e1 _ _ fun u t1 σ1 S1 R1 r1=>?_)
 exact wpAny_Constant_none (isN_op hp r1 ⟨_,rfl,k _ t1 σ1 S1 R1 rfl⟩)
end
end Mine
end
section
namespace Mine
open PySem PySem.W PyProof.Rows PySem.SeqAt
section
variable {G:Gd} {N:Names} {C:Calls} {d:Dp} {sc:Sc} {Γ:Gam} {t:Tie} {st st':MS} {s:Shared} {A:Around} {X Y Z:V} {v w:Value}
theorem idx_seqIndex {i:Int} {n j:Nat} (e:idx i n = some j):seqIndex? i n = some j ∧ j < n:=by
 unfold idx at e
 unfold seqIndex?
 split at e
 ·split at e
  ·cases e
   rename_i h1 h2
   have:¬ i < 0:=by lia
   simp only [this,if_false]
   exact ⟨by simp; lia,by lia⟩
  ·exact no_none e
 ·split at e
  ·cases e
   rename_i h1 h2
   have:i < 0:=by lia
   simp only [this,if_true]
   exact ⟨by simp; lia,by lia⟩
  ·exact no_none e
noncomputable def notSlice (x:PySem.Expr):Bool:=!Nat.beq x.ctorIdx 26
theorem subscripted_plain {slice:PySem.Expr} (h:notSlice slice = true) (o i:Value):subscripted slice false o i = operate [o,i] (PySem.getItem o i):=by
 cases slice <;> first | rfl | exact no_ft h
theorem idx_bd {i:Int} {n j:Nat} (h:idx i n = some j) (hn:n ≤ sizeMax):-(2 ^ 63:Int) ≤ i ∧ i < 2 ^ 63:=by
 have hn:n ≤ 16777216:=hn
 unfold idx at h
 split at h
 ·split at h
  ·omega
  ·exact no_none h
 ·split at h
  ·omega
  ·exact no_none h
theorem idx_in {i:Int} {n j:Nat} (h:idx i n = some j) (hn:n ≤ sizeMax):(decide (i < -(2 ^ 63)) || decide (i ≥ 2 ^ 63)) = false:=by
 obtain ⟨h1,h2⟩:=idx_bd h hn
 rw [decide_eq_false (Int.not_lt.2 h1),decide_eq_false (Int.not_le.2 h2)]; rfl
theorem idx_to {i:Int} {n j:Nat} (h:idx i n = some j) (h0:0 ≤ i):j = i.toNat:=by
 unfold idx at h; rw [if_pos h0] at h; split at h <;> cases h; rfl
theorem getItem_sound {value slice:PySem.Expr} (hs:notSlice slice = true) (R:Rel G t st s) (hA:AOk d A) (hX:VRel t s.heap X v) (hY:VRel t s.heap Y w) (e:getItem X Y st = .ok Z st'):Sim G A t s (subscriptTail value slice v w) st' (vrel Z):=by
 have hsz:(sizeMax:Int) < 2 ^ 62:=by decide
 have okV':∀ {o:Option V},okV st o = .ok Z st' → o = some Z ∧ st' = st:=by
  intro o h; cases o with | none=>cases h | some b=>cases h; exact ⟨rfl,rfl⟩
 cases Y with
 | int i =>
  obtain ⟨k,rfl⟩:=hY
  cases X with
  | str x =>
   simp only [getItem] at e
   split at e
   ·rename_i hz
    obtain ⟨ez,rfl⟩:=okV' e
    obtain ⟨k1,rfl⟩:=hX
    obtain ⟨j,h1,h2⟩:=Option.bind_eq_some_iff.mp ez
    obtain ⟨c,h3,rfl⟩:=Option.map_eq_some_iff.mp h2
    obtain ⟨h4,h5⟩:=idx_seqIndex h1
    intro Q E q
    refine tail_any (typeIs_str s _ k1) PySem.F.slot_str_getitem.lookup (PyProof.Rows.getItem_str (c:=c) ?_ ?_ (q _ t _ (Step.toks _ t s _) (R.toks _) ⟨_,rfl⟩)) (subscripted_plain hs _ _)
    ·exact idx_in h1 hz
    ·have:(toStr x).length = x.length:=by simp [Str.length]
     rw [this,h4,Option.bind_some]
     show (x.toArray)[j]? = some c
     simpa using h3
   ·exact no_stuck e
  | _ =>
   simp only [getItem] at e
   split at e
   ·rename_i kk l hl
    obtain ⟨ez,rfl⟩:=okV' e
    obtain ⟨j,h1,h2⟩:=Option.bind_eq_some_iff.mp ez
    obtain ⟨h4,h5⟩:=idx_seqIndex h1
    obtain ⟨a,vs,rfl,ia,ra,sz⟩:=seqOf_real R hX hl
    obtain ⟨y,h6,h7⟩:=ra.get h2
    have hls:vs.size = l.length:=by rw [← ra.length]; simp
    have hbd:=idx_bd h1 sz
    have hy:vs[j]? = some y:=by rw [← Array.getElem?_toList]; exact h6
    cases kk with
    | true =>
     simp only [if_true] at ia
     intro Q E q
     refine tail_any ia.isList.typeIs slot_list_getitem.lookup ?_ (subscripted_plain hs _ _)
     by_cases h0:0 ≤ i
     ·cases idx_to h1 h0
      exact wpAny_getItem_list ia.isList h0 hbd.2 hy (q _ t s (.refl _ _ _) R h7)
     ·have e1:vs = vs.toList.toArray:=by simp
      rw [e1] at ia
      exact kde_getNeg ia.isList (Int.lt_of_not_ge h0) hbd.1 (by rw [Array.length_toList,hls]; exact h4) h6 (q _ t s (.refl _ _ _) R h7)
    | false =>
     simp only [Bool.false_eq_true,if_false] at ia
     intro Q E q
     obtain ⟨n,ha⟩:=ia
     exact tail_any ⟨_,ha,rfl⟩ PySem.F.slot_tuple_getitem.lookup (P.getItem_tuple ha (by omega) hbd.2 (by rw [hls]; exact h4) hy (q _ t s (.refl _ _ _) R h7)) (subscripted_plain hs _ _)
   ·exact no_stuck e
 | str x =>
  obtain ⟨k,rfl⟩:=hY
  cases X with
  | ref r =>
   simp only [getItem] at e
   split at e
   ·rename_i dd hdd
    simp only [V.isKey,if_true] at e
    obtain ⟨ez,rfl⟩:=okV' e
    obtain ⟨a,kvs,h1,h2,h3⟩:=R.objs r _ hdd
    obtain ⟨a',rfl,e2⟩:=hX
    rw [h1] at e2; cases e2
    have f:=DRel.find (x:=x) h3
    rw [ez] at f
    obtain ⟨y,f1,f2⟩:=f
    intro Q E q
    exact tail_any h2.mapOf.typeIs slot_dict_getitem.lookup (wpAny_getItem_of (strKind_is G.prog G.w (toStr x) k) h2.mapOf f1 (q _ t _ (Step.toks _ t s _) (R.toks _) f2)) (subscripted_plain hs _ _)
   ·exact no_stuck e
  | _=>simp [getItem] at e
 | _=>cases X <;> simp [getItem,V.isKey] at e <;> (split at e <;> simp at e)
theorem sim_sub {a b:E} {x y:PySem.Expr} {pos:Pos} (hs:notSlice y = true) (ha:SimE G C d sc Γ a x) (hb:SimE G C d sc Γ b y):SimE G C d sc Γ (.sub a b) (.Subscript x y pos):=by
 intro t st s env loc X st' A hA hsc F R e Q E k
 rw [ev_sub] at e
 obtain ⟨v1,s1,e1,e⟩:=Res.bind_ok e
 obtain ⟨v2,s2,e2,e⟩:=Res.bind_ok e
 refine Subscript_ (ha t st s env loc _ _ A hA hsc F R e1 _ _ fun u t1 σ1 S1 R1 r1=>?_)
 refine hb t1 s1 σ1 env loc _ _ A hA hsc (F.step R S1) R1 e2 _ _ fun w t2 σ2 S2 R2 r2=>?_
 exact getItem_sound hs R2 hA (VRel.step S2 (fun _ z=>z.elim) _ r1) r2 e _ _ fun z t3 σ3 S3 R3 r3=>k z t3 σ3 ((S1.trans S2).trans S3) R3 r3
noncomputable def notSuper:PySem.Expr → Bool
 | .Call (.Name _ _) [] [] _=>false
 | _=>true
theorem base_plain {x:PySem.Expr} (h:notSuper x = true) (n:PySem.Str) (env:Env):attributeBase x n env (eval x env) = eval x env:=by
 cases x with
 | Call f l k p=>cases f with
  | Name y np=>cases l with
   | nil=>cases k with
    | nil=>exact no_ft h
    | cons a r=>rfl
   | cons a r=>rfl
  | _=>rfl
 | _=>rfl
set_option genCtorIdx false in
structure ClsOk (G:Gd) (Ca:Addr):Prop where
 ga:findIn G.K (.ref Ca) "__getattribute__" = some (some (.builtin "object.__getattribute__"))
 gt:findIn G.K (.ref Ca) "__getattr__" = some none
 sa:findIn G.K (.ref Ca) "__setattr__" = some (some (.builtin "object.__setattr__"))
 at_:∀ i,i < 13 → findIn G.K (.ref Ca) (G.an i) = some none
 cd:∃ cd,clsIn G.K Ca = some cd ∧ cd.hasDict = true
 po:plainOver G.K Ca = true
theorem ns_lookIn {h:Heap} {a:Addr} {m:PySem.Str → Option Value} (hn:h.Ns a m) (x:PySem.Str):∃ o,h.get? a = some o ∧ lookIn x o = some (m x):=by
 obtain ⟨o,es,ep,ho,hd,hk,hf⟩:=hn
 refine ⟨o,ho,?_⟩
 unfold lookIn
 rw [hd]
 dsimp only
 have:=hf x
 unfold nsFind findBy at this
 rw [← Array.find?_toList] at this
 cases q:es.toList.find? (fun e=>e.key.isStr x) with
 | some e=>rw [q] at this; simp only [Option.map_some] at this; rw [← this]
 | none =>
  rw [q] at this
  simp only [Option.map_none] at this
  have nr:es.toList.any (·.refKey) = false:=by
   refine List.any_eq_false.mpr fun e he=>?_
   obtain ⟨n,tk,hk'⟩:=hk e (Array.mem_toList_iff.mp he)
   simp [DictEntry.refKey,hk']
  dsimp only
  rw [nr,if_neg (by decide),← this]
theorem inst_at {G:Gd} {t:Tie} {st:MS} {s:Shared} (R:Rel G t st s) {l:Lbl} {c:Nat} {as:List (Nat × V)} (h:st.heap l = some (.inst c as)) :
  ∃ a dd Ca m od,t.ρ l = some a ∧ t.δ l = some dd ∧ G.ca c = some Ca ∧ InstAt s.heap a (instObj Ca dd) Ca (some od) ∧ s.heap.get? dd = some od ∧ (∀ x,lookIn x od = some (m x)) ∧ NsZ s.heap dd m as.length ∧ ARel G t s.heap as m:=by
 obtain ⟨a,dd,Ca,m,h1,h2,h3,h4,h5,h6⟩:=R.objs l _ h
 have h7:∃ od,s.heap.get? dd = some od:=let ⟨o,_,_,ho,_⟩:=h5; ⟨o,ho⟩
 obtain ⟨od,ho⟩:=h7
 refine ⟨a,dd,Ca,m,od,h1,h2,h3,⟨h4,rfl,rfl,ho⟩,ho,fun x=>?_,h5,h6⟩
 obtain ⟨o',e1,e2⟩:=ns_lookIn h5.ns x
 rw [ho] at e1; cases e1; exact e2
theorem getAttr_sound (O:G.Ok N) (hcl:∀ c Ca,G.ca c = some Ca → ClsOk G Ca) {i:Nat} {b:Bool} (hi:i < 13) (R:Rel G t st s) (hX:VRel t s.heap X v) (e:getAttr X i st = .ok Z st'):Sim G A t s (PySem.getAttr v (G.an i) b) st' (vrel Z):=by
 cases X with
 | ref r =>
  simp only [getAttr] at e
  split at e
  ·rename_i c as has
   cases q:afind i as with
   | none=>rw [q] at e; exact no_stuck e
   | some z =>
    rw [q] at e
    obtain ⟨rfl,rfl⟩:Z = z ∧ st' = st:=by cases e; exact ⟨rfl,rfl⟩
    obtain ⟨a,dd,Ca,m,od,h1,h2,h3,I,h5,h6,h7,h8⟩:=inst_at R has
    obtain ⟨a',rfl,e2⟩:=hX
    rw [h1] at e2; cases e2
    obtain ⟨y,y1,y2⟩:=h8.1 i Z q
    have K:=hcl c Ca h3
    obtain ⟨cd,c1,c2⟩:=K.cd
    intro Q E k
    refine get_value (O.K.keeps R.base) I K.ga (v:=y) ?_ ?_ (k _ t _ (Step.toks _ t s _) (R.toks _) y2)
    ·unfold findObj
     rw [c1,K.at_ i hi]
     simp only [Option.bind_some]
     unfold W.ownOf
     rw [c2,if_pos rfl]
     dsimp only
     rw [h6,y1]
     rfl
    ·cases y <;> first | rfl | exact absurd rfl (y2.notB _)
  ·exact no_stuck e
 | _=>exact no_stuck e
theorem sim_attr (O:G.Ok N) (hcl:∀ c Ca,G.ca c = some Ca → ClsOk G Ca) {i:Nat} {a:E} {x:PySem.Expr} {pos:Pos} (hi:i < 13) (hx:notSuper x = true) (ha:SimE G C d sc Γ a x):SimE G C d sc Γ (.attr a i) (.Attribute x (G.an i) pos):=by
 intro t st s env loc X st' A hA hsc F R e Q E k
 rw [ev_attr] at e
 obtain ⟨v1,s1,e1,e⟩:=Res.bind_ok e
 refine Attribute_any_ (ha t st s env loc _ _ A hA hsc F R e1 _ _ fun u t1 σ1 S1 R1 r1=>?_) ?_
 ·exact getAttr_sound O hcl hi R1 r1 e _ _ fun z t3 σ3 S3 R3 r3=>k z t3 σ3 (S1.trans S3) R3 r3
 ·show (attributeBase x (G.an i) env (eval x env) >>= _) = _
  rw [base_plain hx]
theorem afind_aput (i j:Nat) (v:V):∀ as:List (Nat × V),afind j (aput i v as) = if j = i then some v else afind j as
 | []=>by
  simp only [aput,afind]
  by_cases q:i = j
  ·subst q; simp
  ·rw [if_neg q,if_neg (fun z=>q z.symm)]
 | (k,w) :: r=>by
  simp only [aput]
  by_cases q:k = i
  ·subst q
   rw [if_pos rfl]
   simp only [afind]
   by_cases z:k = j
   ·subst z; simp
   ·rw [if_neg z,if_neg (fun y=>z y.symm),if_neg z]
  ·rw [if_neg q]
   simp only [afind]
   by_cases z:k = j
   ·subst z; rw [if_pos rfl,if_neg q,if_pos rfl]
   ·rw [if_neg z,if_neg z,afind_aput i j v r]
theorem aput_length (i:Nat) (v:V):∀ as:List (Nat × V),(aput i v as).length = if (afind i as).isSome = true then as.length else as.length + 1
 | []=>rfl
 | (k,w) :: r=>by
  by_cases q:k = i
  ·have h1:afind i ((k,w) :: r) = some w:=by simp [afind,q]
   rw [h1]; simp [aput,q]
  ·have h1:afind i ((k,w) :: r) = afind i r:=by simp [afind,q]
   have h2:aput i v ((k,w) :: r) = (k,w) :: aput i v r:=by simp [aput,q]
   rw [h1,h2,List.length_cons,aput_length i v r,List.length_cons]
   split <;> rfl
theorem setAttr_sound (O:G.Ok N) (hcl:∀ c Ca,G.ca c = some Ca → ClsOk G Ca) {i:Nat} {u:Unit} (hi:i < 13) (R:Rel G t st s) (hX:VRel t s.heap X v) (hY:VRel t s.heap Y w) (e:setAttr X i Y st = .ok u st'):Sim G A t s (PySem.setAttr v (G.an i) w) st' (fun _ _ _=>True):=by
 cases X with
 | ref r =>
  simp only [setAttr] at e
  split at e
  ·rename_i c as has
   split at e
   case isFalse=>exact no_stuck e
   rename_i hlen
   cases e
   obtain ⟨a,dd,Ca,m,od,h1,h2,h3,I,h5,h6,h7,h8⟩:=inst_at R has
   obtain ⟨a',rfl,e2⟩:=hX
   rw [h1] at e2; cases e2
   have K:=hcl c Ca h3
   obtain ⟨cd,c1,c2⟩:=K.cd
   have XK:=O.K.keeps R.base
   intro Q E k
   refine set_plain XK I K.sa ?_
   refine osa_open (s:={ s with toks:=s.toks + 1 }) XK (od:=some od) ⟨I.at_,I.cls,I.no,I.dict⟩ K.po (r:=none) ?_ fun b=>?_
   ·unfold takerIn; rw [K.at_ i hi]; rfl
   ·refine wpAny_bind (wpAny_pure (wpAny_bind (wpAny_bind (wpAny_loadPart (s:={ s with toks:=s.toks + 1 }) I.at_ (wpAny_bind (Looks.here (s:={ s with toks:=s.toks + 1 }) (looks_clsIn XK c1) ?_))))))
    rw [c2]
    refine wpAny_pure (a:=some dd) (wpAny_bind (wpAny_pure (wpAny_bind (wpAny_nsSetZ (s:={ s with toks:=s.toks + 1 }) h7 fun h' hn hs=>?_))))
    have own:t.ρ r = some a ∨ t.δ r = some dd:=.inl h1
    have hl:(h'.get? dd).isSome = true:=by obtain ⟨o,_,_,ho,_⟩:=hn; rw [ho]; rfl
    have hlen2:(if (m (G.an i)).isSome = true then as.length else as.length + 1) = (aput i Y as).length:=by
     rw [aput_length]
     cases q:afind i as with
     | some z=>obtain ⟨y,y1,_⟩:=h8.1 i z q; rw [y1]; rfl
     | none =>
      cases q2:m (G.an i) with
      | none=>rfl
      | some y=>obtain ⟨j,z,z1,z2⟩:=h8.2 _ _ q2; rw [← O.an _ _ z1,q] at z2; exact no_none z2
    rw [hlen2] at hn
    obtain ⟨on,esn,epn,hon,hdn,_,_,hzn⟩:=id hn
    have hzz:(aput i Y as).length ≤ 1000:=by rw [aput_length]; split <;> lia
    have S:=Step.upd (t:=t) (s:=s) (tk:=s.toks + 1 + 1) ⟨r,.inr h2⟩ hl hs
    have na:a ≠ dd:=fun q=>R.two r r a h1 (q ▸ h2)
    refine wpAny_bind (wpAny_lookBehind hon (by rw [hdn]; exact pastItsLine_dict (by rw [sizeLine_eq]; lia)) ?_)
    refine wpAny_pure (k () t.tick _ S (R.upd (l:=r) (.inr h2) hl hs (by rw [has]; exact fun q=>by cases q) ⟨a,dd,Ca,_,h1,h2,h3,(hs.2 a na).trans I.at_,hn,?_,?_⟩) trivial)
    ·intro j z hz
     rw [afind_aput] at hz
     by_cases q:j = i
     ·subst q
      rw [if_pos rfl] at hz; cases hz
      exact ⟨w,by simp,VRel.step S (fun _ z=>z.elim) _ hY⟩
     ·rw [if_neg q] at hz
      obtain ⟨y,y1,y2⟩:=h8.1 j z hz
      refine ⟨y,?_,VRel.step S (fun _ z=>z.elim) _ y2⟩
      show (if G.an j = G.an i then some w else m (G.an j)) = some y
      rw [if_neg (fun z=>q (O.an _ _ z))]; exact y1
    ·intro x y hx
     by_cases q:x = G.an i
     ·subst q; exact ⟨i,Y,rfl,by rw [afind_aput,if_pos rfl]⟩
     ·change (if x = G.an i then some w else m x) = some y at hx
      rw [if_neg q] at hx
      obtain ⟨j,z,rfl,z2⟩:=h8.2 x y hx
      refine ⟨j,z,rfl,?_⟩
      rw [afind_aput,if_neg (fun (z:j = i)=>q (by rw [z]))]; exact z2
  ·exact no_stuck e
 | _=>exact no_stuck e
end
end Mine
end
section
namespace Mine
open PySem PySem.W PyProof.Rows
section
variable {G:Gd} {N:Names} {C:Calls} {d:Dp} {sc:Sc} {Γ:Gam} {A:Around} {t:Tie} {st st':MS} {s:Shared} {env:Env} {loc:Loc}
noncomputable def plainArgs (m:List PySem.Expr):Bool:=m.all fun x=>!isStarred x
theorem star_false {x:PySem.Expr} (hx:isStarred x = false) (m:List PySem.Expr) (env:Env):starEach (x :: m) env = (false,eval x env) :: starEach m env:=by cases x <;> first | rfl | exact no_tf hx
theorem star_plain (pos:Pos) (env:Env):∀ {m:List PySem.Expr},plainArgs m = true → (backTo pos (starEach m env)).any (·.1) = false
 | [],_=>rfl
 | x :: m,h=>by
  simp only [plainArgs,List.all_cons,Bool.and_eq_true,Bool.not_eq_true'] at h
  rw [star_false h.1]
  exact star_plain pos env (m:=m) h.2
theorem star_all (pos:Pos) (env:Env) {m:List PySem.Expr} (h:plainArgs m = true):(backTo pos (starEach m env)).all (fun x=>!x.1) = true:=by
 have:=star_plain pos env h
 rw [List.any_eq_false] at this
 rw [List.all_eq_true]
 intro x hx
 simpa using this x hx
theorem args_go {f:Value} {pos:Pos} {l:List E} {m:List PySem.Expr} {Vs:List V} {Q:Args → Shared → Prop} {E':Value → Shared → Prop} (hm:plainArgs m = true) (hlm:l.length = m.length) (hl:SimEs G C d sc Γ l m) (hA:AOk d A) (hsc:env.scope.names = sc)
  (F:FrOk G A t env Γ loc s) (R:Rel G t st s) (e:evL G.P C l loc st = .ok Vs st') (h:∀ vs t' s',Step noX t t' s s' → Rel G t' st' s' → VRels t' s'.heap Vs vs → Q ⟨vs,[]⟩ s') :
  wpAny G.M A (evalArgs f true (backTo pos (starEach m env)) []) Q E' s:=by
 cases m with
 | nil =>
  cases l with
  | nil=>cases e; exact evalArgs_nil3 (h [] t s (.refl _ _ _) R rfl)
  | cons a l=>cases hlm
 | cons x m =>
  simp only [plainArgs,List.all_cons,Bool.and_eq_true,Bool.not_eq_true'] at hm
  have q:=hl pos t st s env loc Vs st' A hA hsc F R e (fun vs s'=>Q ⟨vs,[]⟩ s') E' h
  rw [star_false hm.1] at q ⊢
  exact Calls.evalArgs_plain q
noncomputable def Keeps (G:Gd) (f:Value):Prop:=∀ h,G.K.In h → ∃ k,(k = Keeper.frame ∨ k = Keeper.machine ∨ k = Keeper.boundFrame) ∧ Looks G.M h (keeperOf f) k
theorem keeps_b (id:String):Keeps G (.builtin id):=fun _ _=>⟨.machine,.inr (.inl rfl),Looks.of_pure rfl⟩
theorem keeps_t (id:String):Keeps G (.type id):=fun _ _=>⟨.machine,.inr (.inl rfl),Looks.of_pure rfl⟩
theorem keeps_r {a:Addr} (h:keepIn G.K (.ref a) = true):Keeps G (.ref a):=fun _ X=>keeps_K h _ X
theorem with_go {f:Value} {first:List Value} {pos:Pos} {l:List E} {m:List PySem.Expr} {Vs:List V} {Q:Value → Shared → Prop} {E':Value → Shared → Prop} (O:G.Ok N) (hk:Keeps G f) (hm:plainArgs m = true) (hlm:l.length = m.length) (hl:SimEs G C d sc Γ l m) (hA:AOk d A) (hsc:env.scope.names = sc)
  (F:FrOk G A t env Γ loc s) (R:Rel G t st s) (e:evL G.P C l loc st = .ok Vs st') (h:∀ vs t' s',Step noX t t' s s' → Rel G t' st' s' → VRels t' s'.heap Vs vs → wpAny G.M A (call f (first ++ vs)) Q E' s') :
  wpAny G.M A (callWith pos f first (backTo pos (starEach m env)) []) Q E' s :=
 callWith_of (by rw [star_plain pos env hm]; rfl) hk (args_go hm hlm hl hA hsc F R e fun vs t' s' S R' r=>⟨O.K.keeps R'.base,h vs t' s' S R' r⟩)
set_option genCtorIdx false in
structure FnOk (G:Gd) (N:Names) (f:Nat) (a:Addr):Prop where
 keep:keepIn G.K (.ref a) = true
 name:N.fn f = Str.empty ∨ G.mg (N.fn f) = some (.ref a)
theorem call_wp {f:Nat} {a:Addr} {Vs:List V} {vs:List Value} {X:V} (O:CallAt G C d f) (hA:AC d A) (hf:G.fa f = some a) (K:Stk A t s.heap) (R:Rel G t st s) (r:VRels t s.heap Vs vs) (e:C f Vs st = .ok X st'):Sim G A t s (call (.ref a) vs) st' (vrel X):=by
 obtain ⟨a',h1,h2⟩:=O Vs st X st' e A hA
 rw [hf] at h1; cases h1
 exact fun Q E' k=>wpAny_call (h2 t s vs K R r _ fun v t' s' S R' q=>k v t' s' S R' q)
theorem sim_call (O:G.Ok N) {f:Nat} (CO:CallAt G C d f) (hfn:∀ f a,G.fa f = some a → FnOk G N f a) {l:List E} {m:List PySem.Expr} {np pos:Pos} (hne:N.fn f ≠ Str.empty) (hg:glob sc (N.fn f) = true) (hm:plainArgs m = true) (hlm:l.length = m.length) (hl:SimEs G C d sc Γ l m) :
  SimE G C d sc Γ (.call f l) (.Call (.Name (N.fn f) np) m [] pos):=by
 intro t st s env loc X st' A hA hsc F R e Q E k
 rw [ev_call] at e
 obtain ⟨Vs,s1,e1,e⟩:=Res.bind_ok e
 obtain ⟨a,h1,_⟩:=CO Vs s1 X st' e A hA.ac
 have fo:=hfn f a h1
 refine wpAny_Call_ofName (glob_name O F R hsc hg (fo.name.resolve_left hne) ?_)
 refine with_go O (keeps_r fo.keep) hm hlm hl hA hsc F R e1 fun vs t1 σ1 S1 R1 r1=>?_
 exact call_wp CO hA.ac h1 (F.step R S1).sk R1 r1 e _ _ fun v t2 σ2 S2 R2 r2=>k v t2 σ2 (S1.trans S2) R2 r2
set_option genCtorIdx false in
structure MethOk (G:Gd) (Ca:Addr) (x:PySem.Str) (a:Addr):Prop where
 find:findIn G.K (.ref Ca) x = some (some (.ref a))
 typ:typeIn G.K (.ref a) = some (.type "function")
 keep:keepIn G.K (.ref a) = true
 notA:∀ i,x ≠ G.an i
theorem meth_form {m:List PySem.Expr} {pos:Pos} {env:Env} (hm:plainArgs m = true) (h30:m.length < 30):methodCallForm (m.length + ([]:List Keyword).length) (backTo pos (starEach m env)) (backToKw pos (keywordEach [] env)) = true:=by
 unfold methodCallForm
 rw [star_all pos env hm]
 show (true && true && decide (m.length + 0 + 0 < 30)) = true
 simpa using h30
theorem meth_at (O:G.Ok N) (hcl:∀ c Ca,G.ca c = some Ca → ClsOk G Ca)
  (hme:∀ c k f Ca,G.P.meths c k = some f → G.ca c = some Ca → ∃ a,G.fa f = some a ∧ MethOk G Ca (N.meth k) a)
  {k:Nat} {a:E} {x:PySem.Expr} {l:List E} {m:List PySem.Expr} {ap pos:Pos} (hx:notSuper x = true) (hln:(ap.endLine == pos.line) = true) (h30:m.length < 30) (hm:plainArgs m = true) (hlm:l.length = m.length)
  (ha:SimE G C d sc Γ a x) (hl:SimEs G C d sc Γ l m) (hA:AOk d A) (hsc:env.scope.names = sc) (F:FrOk G A t env Γ loc s) (R:Rel G t st s) {U:V} {s1 s2:MS} {f:Nat} {Vs:List V} (e1:ev G.P C a loc st = .ok U s1) (hmo:methOf G.P U k s1 = some f) (e2:evL G.P C l loc s1 = .ok Vs s2)
  {Q E:Value → Shared → Prop} (q:∀ fa v vs t2 σ2,G.fa f = some fa → Step noX t t2 s σ2 → Rel G t2 s2 σ2 → VRels t2 σ2.heap (U :: Vs) (v :: vs) → wpAny G.M A (call (.ref fa) (v :: vs)) Q E σ2) :
  wpAny G.M A (eval (.Call (.Attribute x (N.meth k) ap) m [] pos) env) Q E s:=by
 rw [arm_eval_Call,base_plain hx]
 refine wpAny_bind (ha t st s env loc _ _ A hA hsc F R e1 _ _ fun v t1 σ1 S1 R1 r1=>wpAny_bind (wpAny_standAt ?_))
 cases U with
 | ref r =>
  simp only [methOf] at hmo
  split at hmo
  ·rename_i c as hr2
   obtain ⟨a,dd,Ca,mm,od,h1,h2,h3,I,h5,h6,h7,h8⟩:=inst_at R1 hr2
   obtain ⟨a',rfl,e4⟩:=id r1
   rw [h1] at e4; cases e4
   obtain ⟨fa,f1,mo⟩:=hme c k f Ca hmo h3
   have KC:=hcl c Ca h3
   have hpos:methodCallPos true x env ap pos = pure pos:=by unfold methodCallPos; rw [hln]; rfl
   unfold methodCall
   rw [meth_form hm h30]
   refine wpAny_bind (wpAny_holding ?_)
   show wpAny _ _ (getMethod (.ref a) (N.meth k) _) _ _ _
   refine method_fn (O.K.keeps R1.base) I KC.ga KC.gt mo.find mo.typ ?_ ?_
   ·show (lookIn (N.meth k) od).map (·.isSome) = some false
    rw [h6]
    cases qq:mm (N.meth k) with
    | none=>rfl
    | some y=>obtain ⟨i,_,z,_⟩:=h8.2 _ _ qq; exact absurd z (mo.notA i)
   ·refine wpAny_bind (wpAny_of_eq hpos ?_)
    refine with_go O (keeps_r mo.keep) hm hlm hl hA hsc (F.step R S1) R1 e2 fun vs t2 σ2 S2 R2 r2=>?_
    exact q fa (.ref a) vs t2 σ2 f1 (S1.trans S2) R2 ⟨_,_,rfl,VRel.step S2 (fun _ z=>z.elim) (.ref r) r1,r2⟩
  ·exact no_none hmo
 | _=>exact no_none hmo
theorem sim_meth (O:G.Ok N) (CO:CallsOk G C d) (hcl:∀ c Ca,G.ca c = some Ca → ClsOk G Ca)
  (hme:∀ c k f Ca,G.P.meths c k = some f → G.ca c = some Ca → ∃ a,G.fa f = some a ∧ MethOk G Ca (N.meth k) a)
  {k:Nat} {a:E} {x:PySem.Expr} {l:List E} {m:List PySem.Expr} {ap pos:Pos} (hx:notSuper x = true) (hln:(ap.endLine == pos.line) = true) (h30:m.length < 30) (hm:plainArgs m = true) (hlm:l.length = m.length)
  (ha:SimE G C d sc Γ a x) (hl:SimEs G C d sc Γ l m):SimE G C d sc Γ (.meth a k l) (.Call (.Attribute x (N.meth k) ap) m [] pos):=by
 intro t st s env loc X st' A hA hsc F R e Q E q
 rw [ev_meth] at e
 obtain ⟨V,s1,e1,e⟩:=Res.bind_ok e
 cases hmo:methOf G.P V k s1 with
 | none=>rw [hmo] at e; exact no_stuck e
 | some f =>
  rw [hmo] at e
  obtain ⟨Vs,s2,e2,e⟩:=Res.bind_ok e
  exact meth_at O hcl hme hx hln h30 hm hlm ha hl hA hsc F R e1 hmo e2 fun fa v vs t2 σ2 f1 S2 R2 r2=>call_wp (Vs:=V :: Vs) (CO f) hA.ac f1 (F.step R S2).sk R2 r2 e _ _ fun v t3 σ3 S3 R3 r3=>q v t3 σ3 (S2.trans S3) R3 r3
set_option genCtorIdx false in
structure NewOk (G:Gd) (N:Names) (c:Nat) (Ca fi:Addr):Prop where
 keep:keepIn G.K (.ref Ca) = true
 name:G.mg (N.cls c) = some (.ref Ca)
 makes:makesIn G.K Ca = true
 init:findIn G.K (.ref Ca) "__init__" = some (some (.ref fi))
 fn:typeIn G.K (.ref fi) = some (.type "function")
theorem size_none1 (h:Heap):h.get? (h.objs.size + 1) = none:=by
 cases e:h.get? (h.objs.size + 1) with
 | none=>rfl
 | some o=>exact absurd (Heap.lt_size e) (Nat.not_lt.mpr (Nat.le_succ _))
theorem Rel.size_sys1 (O:G.Ok N) {t:Tie} {st:MS} {s:Shared} (R:Rel G t st s):s.heap.objs.size + 1 ≠ sysModules:=by
 obtain ⟨mc,⟨o,es,ep,ho,_⟩,_⟩:=O.lim
 have h1:=Heap.lt_size (R.base _ _ ho)
 intro q
 have h2:s.heap.objs.size = 0:=Nat.succ.inj (n:=0) q
 rw [h2] at h1
 exact absurd h1 (Nat.not_lt_zero _)
theorem Stk.under {A:Around} {t:Tie} {h:Heap} {id:String} {a:Args} (K:Stk A t h):Stk (A.under (.builtin id a)) t h:=⟨by unfold Around.under; dsimp only; rw [K.fr]; rfl,K.ob⟩
theorem sim_new (O:G.Ok N) (CO:CallsOk G C d) (hne:∀ c k f,G.P.inits c = some (k,f) → ∃ Ca fi,G.ca c = some Ca ∧ G.fa f = some fi ∧ NewOk G N c Ca fi)
  {c:Nat} {l:List E} {m:List PySem.Expr} {np pos:Pos} (hg:glob sc (N.cls c) = true) (hm:plainArgs m = true) (hlm:l.length = m.length) (hl:SimEs G C d sc Γ l m) :
  SimE G C d sc Γ (.new c l) (.Call (.Name (N.cls c) np) m [] pos):=by
 intro t st s env loc X st' A hA hsc F R e Q E q
 rw [ev_new] at e
 obtain ⟨Vs,s1,e1,e⟩:=Res.bind_ok e
 unfold makeInst at e
 split at e
 case h_2=>exact no_stuck e
 rename_i k f hi
 obtain ⟨Ca,fi,c1,c2,no⟩:=hne c k f hi
 obtain ⟨X1,s2,e2,e⟩:=Res.bind_ok e
 split at e
 case h_2=>exact no_stuck e
 cases e
 refine wpAny_Call_ofName (glob_name O F R hsc hg no.name ?_)
 refine with_go O (keeps_r no.keep) hm hlm hl hA hsc F R e1 fun vs t1 σ1 S1 R1 r1=>?_
 refine wpAny_call ?_
 have XK:=O.K.keeps R1.base
 have K1:=(F.step R S1).sk
 obtain ⟨hh,g,dr,tk,os⟩:=σ1
 refine make_core (makes_of XK no.makes) (looks_findIn XK no.init) (fun self=>bind_fn XK self no.fn) (.inl rfl) ?_
 have keep:∀ b o,hh.get? b = some o → ((hh.push emptyDict).push (instObj Ca hh.objs.size)).get? b = some o:=fun b o e=>Heap.get?_push_of_some _ (Heap.get?_push_of_some _ e)
 have fr1:hh.get? (hh.objs.size + 1) = none:=size_none1 _
 have fr0:hh.get? hh.objs.size = none:=size_none _
 have hx:((hh.push emptyDict).push (instObj Ca hh.objs.size)).get? (hh.objs.size + 1) = some (instObj Ca hh.objs.size):=by heap_get
 have hd0:((hh.push emptyDict).push (instObj Ca hh.objs.size)).get? hh.objs.size = some emptyDict:=by heap_get
 have hns:NsZ ((hh.push emptyDict).push (instObj Ca hh.objs.size)) hh.objs.size (fun _=>none) 0:=⟨_,#[],0,hd0,rfl,fun e he=>by simp at he,fun _=>rfl,Nat.le_refl _⟩
 have S2:=Step.bind (k:=k) (d:=some hh.objs.size) (s':=⟨(hh.push emptyDict).push (instObj Ca hh.objs.size),g,dr,tk,os⟩) R1 keep rfl rfl fr1 (fun x z=>by cases z; exact fr0)
 have R2:=Rel.bind (k:=k) (d:=some hh.objs.size) (s':=⟨(hh.push emptyDict).push (instObj Ca hh.objs.size),g,dr,tk,os⟩) (o:=.inst c []) R1 keep rfl rfl fr1
  (fun x z=>by cases z; exact ⟨fr0,(fun z=>absurd z (Nat.ne_of_lt (Nat.lt_succ_self _))),by show (Heap.get? _ _).isSome = true; rw [hd0]; rfl⟩) (by show (Heap.get? _ _).isSome = true; rw [hx]; rfl) (R1.size_sys1 O) ⟨_,_,Ca,_,by simp [Tie.bind],by simp [Tie.bind],c1,hx,hns,⟨fun i v z=>(nomatch z),fun x y z=>(nomatch z)⟩⟩
 have ac:AC d (A.under (.builtin "type.__call__" ⟨.ref Ca :: vs,[]⟩)):=⟨hA.hd,by have:=hA.dep; rw [depth_under_make]; lia,by have:=hA.un; rw [units_under_make]; lia⟩
 obtain ⟨fi',z1,z2⟩:=CO f _ _ _ _ e2 _ ac
 rw [c2] at z1; cases z1
 refine z2 _ _ (.ref (hh.objs.size + 1) :: vs) (K1.step0 R1 S2).under R2 ⟨_,_,rfl,⟨_,rfl,by simp [Tie.bind]⟩,VRels.step S2 (fun _ z=>z.elim) _ r1⟩ _ fun v t3 σ3 S3 R3 r3=>?_
 have:v = .none:=r3
 subst this
 exact ⟨rfl,q _ t3 σ3 ((S1.trans S2).trans S3) R3 ⟨_,rfl,S3.le.ρ _ _ (by simp [Tie.bind])⟩⟩
end
end Mine
end
section
namespace Mine
open PySem PySem.W PyProof.Rows
section
variable {G:Gd} {N:Names} {C:Calls} {d:Dp} {sc:Sc} {Γ:Gam} {A:Around} {t:Tie} {st st':MS} {s:Shared} {env:Env} {loc:Loc} {X Y Z:V} {v w:Value}
theorem VRel.madeL (R:Rel G t st s) {s':Shared} {a:Addr} {l:List V} {vs:Array Value} (S:Step noX t t s s') (ha:s.heap.get? a = none) (ho:PL s'.heap a vs) (r:VRels t s.heap l vs.toList) (sz:l.length ≤ sizeMax):VRel t s'.heap (.lst l) (.ref a) :=
 ⟨_,vs,rfl,ho,R.fresh ha,sz,VRels.step S (fun _ q=>q.elim) l r⟩
theorem VRel.madeT (R:Rel G t st s) {s':Shared} {a:Addr} {l:List V} {vs:Array Value} (S:Step noX t t s s') (ha:s.heap.get? a = none) (ho:PT s'.heap a vs) (r:VRels t s.heap l vs.toList) (sz:l.length ≤ sizeMax):VRel t s'.heap (.tup l) (.ref a) :=
 ⟨_,vs,rfl,ho,R.fresh ha,sz,VRels.step S (fun _ q=>q.elim) l r⟩
theorem size_of {h:Heap} {l:List V} {vs:Array Value} (r:VRels t h l vs.toList):vs.size = l.length:=by rw [← r.length]; simp
theorem none_later {h h':Heap} (k:∀ b o,h.get? b = some o → h'.get? b = some o) {a:Addr} (e:h'.get? a = none):h.get? a = none:=by
 cases q:h.get? a with
 | none=>rfl
 | some o=>rw [k a o q] at e; cases e
theorem fit63 {n:Nat} (h:n ≤ sizeMax):(n:Int) < 2 ^ 63:=by unfold sizeMax at h; lia
theorem allTrue_spec {h:Heap}:∀ {l:List V} {vs:List Value} {b:Bool},VRels t h l vs → allTrue l = some b → ∃ bs:List Bool,vs = bs.map .bool ∧ b = bs.all id
 | [],_,_,r,e=>by cases r; cases e; exact ⟨[],rfl,rfl⟩
 | .bool x :: l,_,_,⟨v,r,rfl,a,c⟩,e=>by
  simp only [allTrue,Option.map_eq_some_iff] at e
  obtain ⟨b',e1,rfl⟩:=e
  obtain ⟨bs,h1,h2⟩:=allTrue_spec c e1
  have a':v = .bool x:=a
  subst a'; subst h1
  exact ⟨x :: bs,rfl,by simp [h2]⟩
 | .none :: _,_,_,_,e=>by exact no_none e
 | .int _ :: _,_,_,_,e=>by exact no_none e
 | .str _ :: _,_,_,_,e=>by exact no_none e
 | .tup _ :: _,_,_,_,e=>by exact no_none e
 | .lst _ :: _,_,_,_,e=>by exact no_none e
 | .ref _ :: _,_,_,_,e=>by exact no_none e
 | .exc _ :: _,_,_,_,e=>by exact no_none e
theorem list_copy (R:Rel G t st s) {k:Bool} {l:List V} {T:PySem.Value → Prop} (hX:VRel t s.heap X v) (e:seqOf st X = some (k,l)) {Q:Value → Shared → Prop} {E':Value → Shared → Prop}
  (h:∀ h' (vs:Array Value),(∀ b o,s.heap.get? b = some o → h'.get? b = some o) → PL h' s.heap.objs.size vs → VRels t s.heap l vs.toList → l.length ≤ sizeMax → Q (.ref s.heap.objs.size) { s with heap:=h' }) :
  wpAny G.M A (call (.type "list") [v]) Q E' s:=by
 obtain ⟨a,vs,rfl,io,r,sz⟩:=seqOf_real R hX e
 have hz:vs.size ≤ sizeLine:=by rw [size_of r]; exact sz
 cases k with
 | true =>
  simp only [if_true] at io
  obtain ⟨n,ho⟩:=io
  exact call_list_seq (hsz:=hz) a (.inl rfl) ho rfl rfl fun h' c' hk hD=>h h' vs hk ⟨c',hD⟩ r sz
 | false =>
  simp only [Bool.false_eq_true,if_false] at io
  obtain ⟨n,ho⟩:=io
  exact call_list_seq (hsz:=hz) a (.inr rfl) ho rfl rfl fun h' c' hk hD=>h h' vs hk ⟨c',hD⟩ r sz
noncomputable def primOk:Prim → Bool
 | .sorted=>false
 | _=>true
noncomputable def primVal:Prim → Value
 | .len=>.builtin "len" | .max2=>.builtin "max" | .int1=>.type "int" | .sorted=>.builtin "sorted" | .tuple1=>.type "tuple" | .list1=>.type "list" | .all1=>.builtin "all"
theorem prim1_sound (hq:d.q = true) (p:Prim) (hp:primOk p = true) (R:Rel G t st s) (hA:AOk d A) (r:VRel t s.heap X v) (e:prim1 p X st = .ok Z st'):Sim G A t s (call (primVal p) [v]) st' (vrel Z):=by
 have int2:∀ {n:Int} {id:String},(∀ (Q:Value → Shared → Prop) (E:Value → Shared → Prop),Q (.int n (s.toks + 1)) { s with toks:=s.toks + 1 + 1 } → wpAny G.M A (call (.builtin id) [v]) Q E s) →
   Sim G A t s (call (.builtin id) [v]) st (vrel (.int n)):=fun h Q E k=>h Q E (k _ t _ (Step.toks _ t s _) (R.toks _) ⟨_,rfl⟩)
 cases p with
 | len =>
  have seqs:∀ {p:Bool × List V},seqOf st X = some p → Sim G A t s (call (.builtin "len") [v]) st (vrel (.int p.2.length)):=by
   rintro ⟨k,l⟩ hr
   obtain ⟨a,vs,rfl,io,rr,sz⟩:=seqOf_real R r hr
   cases k with
   | true =>
    simp only [if_true] at io
    exact int2 fun Q E q=>Calls.call_len_list io.isList (by rw [size_of rr]; exact fit63 sz) (by rw [size_of rr]; exact q)
   | false =>
    simp only [Bool.false_eq_true,if_false] at io
    exact int2 fun Q E q=>PyProof.Rows.len_tuple io.isTup (by rw [size_of rr]; exact fit63 sz) (by rw [size_of rr]; exact q)
  simp only [prim1,lenV] at e
  split at e
  ·split at e
   ·rename_i x hz
    cases e
    obtain ⟨k,rfl⟩:=r
    have hl:(toStr x).length = x.length:=by simp [toStr,PySem.Str.length]
    exact int2 fun Q E q=>PySem.P.len_str (by rw [hl]; have:=fit63 hz; lia) (by rw [hl]; exact q)
   ·exact no_stuck e
  ·split at e
   ·rename_i hr; cases e; exact seqs hr
   ·exact no_stuck e
 | int1=>cases e
 | tuple1 =>
  simp only [prim1] at e
  split at e
  ·rename_i p hr
   cases e
   obtain ⟨k,l⟩:=p
   obtain ⟨a,vs,rfl,io,rr,sz⟩:=seqOf_real R r hr
   cases k with
   | true =>
    simp only [if_true] at io
    intro Q E k
    refine call_tuple_list io.isList (fun h' hk=>?_) (by rw [size_of rr]; exact sz)
    have S:Step noX t t s { s with heap:=h'.push { cls:=.type "tuple",data:=.seq vs } }:=Step.grow R (fun b o e=>Heap.get?_push_of_some _ (hk b o e)) rfl rfl
    exact k _ t _ S (R.grow (fun b o e=>Heap.get?_push_of_some _ (hk b o e)) rfl rfl) (VRel.madeT R S (none_later hk (size_none h')) ⟨_,Heap.get?_push_size _ rfl⟩ rr sz)
   | false =>
    simp only [Bool.false_eq_true,if_false] at io
    intro Q E k
    refine call_tuple_same io.isTuple (k _ t s (.refl _ _ _) R ?_)
    cases X with
    | tup m=>cases hr; exact r
    | lst m=>cases hr
    | ref r=>simp only [seqOf] at hr; split at hr <;> cases hr
    | _=>exact no_none hr
  ·exact no_stuck e
 | list1 =>
  simp only [prim1] at e
  split at e
  ·rename_i p hr
   cases e
   obtain ⟨k,l⟩:=p
   intro Q E q
   refine list_copy (T:=fun _=>True) R r hr fun h' vs hk hD rr sz=>?_
   have S:Step noX t t s { s with heap:=h' }:=Step.grow R hk rfl rfl
   exact q _ t _ S (R.grow hk rfl rfl) (VRel.madeL R S (size_none _) hD rr sz)
  ·exact no_stuck e
 | all1 =>
  simp only [prim1] at e
  split at e
  ·rename_i l
   unfold okB at e
   split at e
   ·rename_i b hb
    cases e
    obtain ⟨a,vs,rfl,io,_,sz,rr⟩:=r
    obtain ⟨bs,h1,h2⟩:=allTrue_spec rr hb
    intro Q E q
    refine call_all_walk (wpAny_pyIter_list io.isList ?_)
    have hne:a ≠ s.heap.objs.size:=fun z=>by obtain ⟨n,ho⟩:=io; rw [z,size_none] at ho; exact no_none ho
    have hsz:vs.size = bs.length:=by rw [← Array.length_toList,h1]; simp
    refine ⟨_,_,_,_,_,_,fun i=>(bs[i]?).getD false,rfl,Walks.list (A:=A.in1) (hA.hd hq) _ a hne vs,⟨⟨_,Heap.get?_push_size _ rfl,rfl,rfl⟩,io.isList.push _⟩,?_,fun h' tk hk=>?_⟩
    ·intro i u σ Q' E' hu hq
     rw [← Array.getElem?_toList,h1,List.getElem?_map] at hu
     obtain ⟨b0,hb0,rfl⟩:=Option.map_eq_some_iff.mp hu
     have hq:Q' ((bs[i]?).getD false) σ:=hq
     rw [hb0] at hq
     exact wpAny_pure hq
    ·have hall:((List.range vs.size).all fun i=>(bs[i]?).getD false) = b:=by
      rw [hsz,h2]
      rw [Bool.eq_iff_iff,List.all_eq_true,List.all_eq_true]
      constructor
      ·intro h x hx
       obtain ⟨i,hi,rfl⟩:=List.mem_iff_getElem.mp hx
       have:=h i (List.mem_range.mpr hi)
       simpa [hi] using this
      ·intro h i hi
       have hi:=List.mem_range.mp hi
       simpa [hi] using h bs[i] (List.getElem_mem hi)
     rw [hall]
     have hk':∀ b o,s.heap.get? b = some o → h'.get? b = some o:=fun b o e=>hk b o (fun z=>by simp at z; rw [z,size_none] at e; exact no_none e) (Heap.get?_push_of_some _ e)
     exact q _ t _ (Step.grow R hk' rfl rfl) (R.grow hk' rfl rfl) rfl
   ·exact no_stuck e
  ·exact no_stuck e
 | max2=>exact no_stuck e
 | sorted=>exact no_ft hp
theorem prim_sound (hq:d.q = true) (p:Prim) (hp:primOk p = true) {Vs:List V} {vs:List Value} (R:Rel G t st s) (hA:AOk d A) (r:VRels t s.heap Vs vs) (e:prim p Vs st = .ok Z st'):Sim G A t s (call (primVal p) vs) st' (vrel Z):=by
 unfold prim at e
 split at e
 ·obtain ⟨v,_,rfl,r1,rfl⟩:=r
  exact prim1_sound hq p hp R hA r1 e
 ·obtain ⟨v,_,rfl,r1,w,_,rfl,r2,rfl⟩:=r
  cases p with
  | max2 =>
   simp only [prim2] at e
   split at e
   ·rename_i x y
    cases e
    obtain ⟨k1,rfl⟩:=r1
    obtain ⟨k2,rfl⟩:=r2
    intro Q E q
    refine max_two_ints (hA.hd hq) fun h' tk hk=>?_
    refine q _ t _ (Step.grow R hk rfl rfl) (R.grow hk rfl rfl) ?_
    by_cases z:x < y
    ·rw [if_pos (show y > x from z),if_pos z]; exact ⟨_,rfl⟩
    ·rw [if_neg (show ¬ y > x from z),if_neg z]; exact ⟨_,rfl⟩
   ·exact no_stuck e
  | _=>exact no_stuck e
 ·exact no_stuck e
theorem built_glob (O:G.Ok N) (F:FrOk G A t env Γ loc s) (R:Rel G t st s) {x:PySem.Str} {pos:Pos} {Q E':Value → Shared → Prop} (hsc:env.scope.names = sc) (hg:glob sc x = true)
  (hx:x ∈ (["len","max","int","sorted","tuple","list","all","isinstance","range","dict","bool","str","ValueError"]:List PySem.Str)) (hb:bootBuiltins x = some v) (h:Q v s):wpAny G.M A (eval (.Name x pos) env) Q E' s :=
 glob_built O F R hsc hg (O.none x hx) hb (by intro z; subst z; revert hx; decide) h
theorem prim_boot (p:Prim) (hp:primOk p = true):bootBuiltins (primName p) = some (primVal p):=by
 cases p <;> first | exact absurd hp (by decide) | decide +kernel
theorem prim_in (p:Prim):primName p ∈ (["len","max","int","sorted","tuple","list","all","isinstance","range","dict","bool","str","ValueError"]:List PySem.Str):=by cases p <;> decide
theorem prim_keeps (p:Prim):Keeps G (primVal p):=by cases p <;> first | exact keeps_b _ | exact keeps_t _
theorem sim_prim (hq:d.q = true) (O:G.Ok N) {p:Prim} (hp:primOk p = true) {l:List E} {m:List PySem.Expr} {np pos:Pos} (hg:glob sc (primName p) = true) (hm:plainArgs m = true) (hlm:l.length = m.length) (hl:SimEs G C d sc Γ l m) :
  SimE G C d sc Γ (.prim p l) (.Call (.Name (primName p) np) m [] pos):=by
 intro t st s env loc X st' A hA hsc F R e Q E k
 rw [ev_prim] at e
 obtain ⟨Vs,s1,e1,e⟩:=Res.bind_ok e
 refine wpAny_Call_ofName (built_glob O F R hsc hg (prim_in p) (prim_boot p hp) ?_)
 refine with_go O (prim_keeps p) hm hlm hl hA hsc F R e1 fun vs t1 σ1 S1 R1 r1=>?_
 exact prim_sound hq p hp R1 hA r1 e _ _ fun v t2 σ2 S2 R2 r2=>k v t2 σ2 (S1.trans S2) R2 r2
theorem sim_listM (O:G.Ok N) {kd:Nat} {a:E} {x:PySem.Expr} {np pos:Pos} (hg:glob sc "list" = true) (hx:isStarred x = false) (ha:SimE G C d sc Γ a x) :
  SimE G C d sc Γ (.listM kd a) (.Call (.Name "list" np) [x] [] pos):=by
 intro t st s env loc X st' A hA hsc F R e Q E k
 rw [ev_listM] at e
 obtain ⟨V,s1,e1,e⟩:=Res.bind_ok e
 split at e
 ·rename_i kk l hr
  cases e
  refine wpAny_Call_ofName (built_glob O F R hsc hg (prim_in .list1) (prim_boot .list1 rfl) ?_)
  have e1':evL G.P C [a] loc st = .ok [V] s1:=by simp [evL_nil,evL_cons,e1,Res.bind]
  refine with_go O (prim_keeps .list1) (l:=[a]) (m:=[x]) (by simp [plainArgs,hx]) rfl (sim_es_cons hx ha sim_es_nil) hA hsc F R e1' fun vs t1 σ1 S1 R1 r1=>?_
  obtain ⟨v,_,rfl,r1,rfl⟩:=r1
  refine list_copy (T:=fun _=>True) R1 r1 hr fun h' vs hk hD rr sz=>?_
  have S:=Step.bind (k:=kd) (d:=none) (s':={ σ1 with heap:=h' }) R1 hk rfl rfl (size_none _) (fun x e=>by exact no_none e)
  have rho:(t1.bind (kd,s1.cnt kd) σ1.heap.objs.size none).ρ (kd,s1.cnt kd) = some σ1.heap.objs.size:=by simp [Tie.bind]
  refine k _ _ _ (S1.trans S) (Rel.bind R1 hk rfl rfl (size_none _) (fun x e=>by exact no_none e) ?_ (R1.size_sys O) ⟨_,vs,rho,hD,sz,VRels.step S (fun _ q=>q.elim) _ rr⟩) ⟨_,rfl,rho⟩
  obtain ⟨n,ho⟩:=hD
  show (Heap.get? h' _).isSome = true
  rw [ho]; rfl
 ·exact no_stuck e
end
end Mine
end
section
namespace Mine
open PySem PySem.W PyProof.Rows
section
variable {G:Gd} {N:Names} {C:Calls} {d:Dp} {sc:Sc} {Γ:Gam} {A:Around} {t:Tie} {st st':MS} {s:Shared} {env:Env} {loc:Loc} {X Y Z:V} {v w:Value}
theorem listAt_real (R:Rel G t st s) {p:Lbl × List V} (hX:VRel t s.heap X v) (e:listAt X st = some p) :
    ∃ a vs n,v = .ref a ∧ t.ρ p.1 = some a ∧ s.heap.get? a = some { cls:=.type "list",data:=.seq vs n } ∧ VRels t s.heap p.2 vs.toList ∧ p.2.length ≤ sizeMax ∧ st.heap p.1 = some (.list p.2):=by
  cases X with
  | ref r =>
    simp only [listAt] at e
    split at e
    · rename_i l hr
      cases e
      obtain ⟨a,vs,h1,⟨n,h2⟩,h3,h4⟩:=R.objs r _ hr
      obtain ⟨a',rfl,e2⟩:=hX
      rw [h1] at e2; cases e2
      exact ⟨a,vs,n,rfl,h1,h2,h4,h3,hr⟩
    · exact no_none e
  | _=>exact no_none e
theorem dictAt_real (R:Rel G t st s) {p:Lbl × List (V × V)} (hX:VRel t s.heap X v) (e:dictAt X st = some p) :
    ∃ a kvs,v = .ref a ∧ t.ρ p.1 = some a ∧ s.heap.DictOf (strKind G.prog G.w) a kvs ∧ DRel t s.heap p.2 kvs ∧ st.heap p.1 = some (.dict p.2):=by
  cases X with
  | ref r =>
    simp only [dictAt] at e
    split at e
    · rename_i l hr
      cases e
      obtain ⟨a,kvs,h1,h2,h3⟩:=R.objs r _ hr
      obtain ⟨a',rfl,e2⟩:=hX
      rw [h1] at e2; cases e2
      exact ⟨a,kvs,rfl,h1,h2,h3,hr⟩
    · exact no_none e
  | _=>exact no_none e
theorem list_upd (R:Rel G t st s) {r:Lbl} {a:Addr} {l l':List V} {vs':Array Value} {h':Heap} {tk:Nat} (hr:st.heap r = some (.list l)) (ha:t.ρ r = some a) (hs:Heap.SameBut a s.heap h') (ho:PL h' a vs') (rr:VRels t s.heap l' vs'.toList) (sz:l'.length ≤ sizeMax) :
    Step noX t t.tick s { s with heap:=h',toks:=tk } ∧ Rel G t.tick (st.put r (.list l')) { s with heap:=h',toks:=tk }:=by
  have hl:(h'.get? a).isSome = true:=by obtain ⟨n,e⟩:=ho; rw [e]; rfl
  have S:=Step.upd (t:=t) (s:=s) (tk:=tk) ⟨r,.inl ha⟩ hl hs
  exact ⟨S,R.upd (l:=r) (.inl ha) hl hs (by rw [hr]; exact fun q=>by cases q) ⟨a,vs',ha,ho,sz,VRels.step S (fun _ z=>z.elim) _ rr⟩⟩
theorem seq_upd (R:Rel G t st s) {r:Lbl} {a:Addr} {l l':List V} {vs:Array Value} {n:Nat} {tk:Nat} {f:Array Value → Array Value} (hr:st.heap r = some (.list l)) (ha:t.ρ r = some a) (ho:s.heap.get? a = some { cls:=.type "list",data:=.seq vs n })
    (rr:VRels t s.heap l' (f vs).toList) (sz:l'.length ≤ sizeMax) :
    Step noX t t.tick s { s with heap:=s.heap.update a (Obj.mapSeq f),toks:=tk } ∧ Rel G t.tick (st.put r (.list l')) { s with heap:=s.heap.update a (Obj.mapSeq f),toks:=tk } :=
  list_upd R hr ha (Heap.SameBut.update ..) ⟨_,IsL.update ho f⟩ rr sz
noncomputable def bmVal:Bm → String
  | .append=>"list.append" | .extend=>"list.extend" | .pop=>"list.pop" | .insert=>"list.insert" | .count=>"list.count" | .get=>"dict.get" | .join=>"str.join" | .upper=>"str.upper"
noncomputable def bmType:Bm → String
  | .append=>"list" | .extend=>"list" | .pop=>"list" | .insert=>"list" | .count=>"list" | .get=>"dict" | .join=>"str" | .upper=>"str"
theorem bm_slot:(m:Bm) → Slot (bmType m) (bmName m) (bmVal m)
  | .append=>PySem.F.slot_list_append
  | .extend=>PySem.F.slot_list_extend
  | .pop=>PySem.F.slot_list_pop
  | .insert=>PySem.F.slot_list_insert
  | .count=>PySem.F.slot_list_count
  | .get=>PySem.F.slot_dict_get
  | .join=>PySem.F.slot_str_join
  | .upper=>PySem.F.slot_str_upper
theorem bm_type:(m:Bm) → typeOf (.builtin (bmVal m)) = pure (.type "method_descriptor")
  | .append=>PySem.F.type_list_append
  | .extend=>PySem.F.type_list_extend
  | .pop=>PySem.F.type_list_pop
  | .insert=>PySem.F.type_list_insert
  | .count=>PySem.F.type_list_count
  | .get=>PySem.F.type_dict_get
  | .join=>PySem.F.type_str_join
  | .upper=>PySem.F.type_str_upper
theorem bm_attrs:(m:Bm) → PlainAttrs (bmType m)
  | .append=>PySem.F.plainAttrs_list
  | .extend=>PySem.F.plainAttrs_list
  | .pop=>PySem.F.plainAttrs_list
  | .insert=>PySem.F.plainAttrs_list
  | .count=>PySem.F.plainAttrs_list
  | .get=>PySem.F.plainAttrs_dict
  | .join=>PySem.F.plainAttrs_str
  | .upper=>PySem.F.plainAttrs_str
theorem idx_fits {i:Int} {n j:Nat} (h:idx i n = some j) (hn:n ≤ sizeMax):Builtin.List.listFitsIndex i = true:=by
  unfold idx at h
  unfold sizeMax at hn
  unfold Builtin.List.listFitsIndex
  split at h <;> split at h <;> first | cases h | skip
  all_goals (simp; lia)
theorem glue_fold:∀ (l:List PySem.Str) (acc:Array Nat),(l.foldl (fun acc p=>acc ++ (toStr []).cps ++ p.cps) acc).toList = acc.toList ++ (l.map (·.cps.toList)).flatten
  | [],acc=>by simp
  | y :: l,acc=>by
    rw [List.foldl_cons,glue_fold l]
    simp [toStr]
theorem join_nil (ys:List PySem.Str):Txt.join (toStr []) ys = toStr (ys.map (·.cps.toList)).flatten:=by
  have h:(Txt.join (toStr []) ys).cps.toList = (ys.map (·.cps.toList)).flatten:=by
    cases ys with
    | nil=>rfl
    | cons y l =>
      show (l.foldl (fun acc p=>acc ++ (toStr []).cps ++ p.cps) y.cps).toList = _
      rw [glue_fold]; simp
  rw [← h]
theorem catStrs_real {h:Heap}:∀ {l:List V} {vs:List Value} {x:List Nat},catStrs l = some x → VRels t h l vs → ∃ ys:List PySem.Str,StrsAre vs ys ∧ (ys.map (·.cps.toList)).flatten = x ∧ (ys.map (·.length)).sum = x.length
  | [],_,_,e,r=>by cases r; cases e; exact ⟨[],.nil,rfl,rfl⟩
  | .str y :: l,_,_,e,⟨v,r,e0,⟨k,e9⟩,c⟩=>by
    subst e0; subst e9
    simp only [catStrs,Option.map_eq_some_iff] at e
    obtain ⟨x',e1,rfl⟩:=e
    obtain ⟨ys,h1,h2,h3⟩:=catStrs_real e1 c
    refine ⟨toStr y :: ys,.cons _ _ h1,?_,?_⟩
    · rw [List.map_cons,List.flatten_cons,h2]
    · rw [List.map_cons,List.sum_cons,h3,List.length_append]; simp [toStr,PySem.Str.length]
  | .none :: _,_,_,e,_=>by exact no_none e
  | .int _ :: _,_,_,e,_=>by exact no_none e
  | .bool _ :: _,_,_,e,_=>by exact no_none e
  | .tup _ :: _,_,_,e,_=>by exact no_none e
  | .lst _ :: _,_,_,e,_=>by exact no_none e
  | .ref _ :: _,_,_,e,_=>by exact no_none e
  | .exc _ :: _,_,_,e,_=>by exact no_none e
theorem bm1_sound {m:Bm} {W:V} (O:G.Ok N) (R:Rel G t st s) (hA:AOk d A) (r1:VRel t s.heap X v) (r2:VRel t s.heap W w) (e:bm1 m X W st = .ok Z st'):Sim G A t s (call (.builtin (bmVal m)) [v,w]) st' (vrel Z):=by
  cases m with
  | append =>
    delta bm1 at e; dsimp only at e
    cases hp:listAt X st with
    | none=>rw [hp] at e; exact no_stuck e
    | some p =>
      rw [hp] at e; dsimp only at e
      split at e
      · rename_i hz
        refine Sim.ok e ?_
        obtain ⟨a,vs,n,rfl,h1,h2,h3,h4,h5⟩:=listAt_real R r1 hp
        intro Q E q
        have sz:vs.size ≤ sizeLine:=by rw [size_of h3]; exact h4
        refine call_meets PySem.F.slot_list_append ⟨_,h2,rfl⟩ PySem.F.entry_list_append (PySem.F.args_list_append_2 _ _) (list_append a vs n w sz) ⟨h2,?_⟩
        have u:=seq_upd (tk:=s.toks) (f:=fun xs=>xs.push w) (l':=p.2 ++ [W]) R h5 h1 h2 (by rw [Array.toList_push]; exact h3.append ⟨w,[],rfl,r2,rfl⟩) (by rw [List.length_append]; exact hz)
        exact q _ t.tick _ u.1 u.2 rfl
      · exact no_stuck e
  | extend =>
    delta bm1 at e; dsimp only at e
    cases hp:listAt X st with
    | none=>rw [hp] at e; exact no_stuck e
    | some p =>
      rw [hp] at e; dsimp only at e
      cases hp2:seqOf st W with
      | none=>rw [hp2] at e; exact no_stuck e
      | some p2 =>
      rw [hp2] at e; dsimp only at e
      split at e
      · rename_i hz
        refine Sim.ok e ?_
        obtain ⟨a,vs,n,rfl,h1,h2,h3,h4,h5⟩:=listAt_real R r1 hp
        obtain ⟨k,l2⟩:=p2
        obtain ⟨b,ws,rfl,io,rr,sz⟩:=seqOf_real R r2 hp2
        intro Q E q
        have s1:vs.size = p.2.length:=size_of h3
        have s2:ws.size = l2.length:=size_of rr
        have hz:p.2.length + l2.length ≤ sizeLine:=hz
        have door:¬(!vs.isEmpty && Builtin.List.listTooLong (vs.size + ws.size)) = true:=extend_door (by rw [s1,s2]; exact hz)
        have u:=seq_upd (tk:=s.toks) (f:=fun xs=>xs ++ ws) (l':=p.2 ++ l2) R h5 h1 h2 (by rw [Array.toList_append]; exact h3.append rr) (by rw [List.length_append]; exact hz)
        cases k with
        | true =>
          simp only [if_true] at io
          obtain ⟨n2,io⟩:=io
          refine call_meets PySem.F.slot_list_extend ⟨_,h2,rfl⟩ PySem.F.entry_list_extend (PySem.F.args_list_extend_2 _ _) (AutoSeq1.list_extend_list_list_0 a vs n b ws n2 door (by rw [s1]; exact h4) (by rw [s1,s2]; lia)) ⟨h2,io,q _ t.tick _ u.1 u.2 rfl⟩
        | false =>
          simp only [Bool.false_eq_true,if_false] at io
          obtain ⟨n2,io⟩:=io
          refine call_meets PySem.F.slot_list_extend ⟨_,h2,rfl⟩ PySem.F.entry_list_extend (PySem.F.args_list_extend_2 _ _) (AutoSeq1.list_extend_list_tuple_0 a vs n b ws n2 door (by rw [s1]; exact h4) (by rw [s1,s2]; lia)) ⟨h2,io,q _ t.tick _ u.1 u.2 rfl⟩
      · exact no_stuck e
  | pop =>
    delta bm1 at e; dsimp only at e
    cases hp:listAt X st with
    | none=>rw [hp] at e; exact no_stuck e
    | some p =>
      rw [hp] at e; dsimp only at e
      cases W with
      | int i =>
        dsimp only at e
        cases hj:idx i p.2.length with
        | none=>rw [hj] at e; exact no_stuck e
        | some j =>
        rw [hj] at e; dsimp only at e
        cases hy:p.2[j]? with
        | none=>rw [hy] at e; exact no_stuck e
        | some y =>
          rw [hy] at e; refine Sim.ok e ?_
          obtain ⟨a,vs,n,rfl,h1,h2,h3,h4,h5⟩:=listAt_real R r1 hp
          obtain ⟨k,rfl⟩:=r2
          obtain ⟨y',e1,e2⟩:=VRels.get h3 hy
          rw [Array.getElem?_toList] at e1
          intro Q E q
          have hjl:j < vs.size:=by rw [Array.getElem?_eq_some_iff] at e1; exact e1.1
          have u:=seq_upd (tk:=s.toks) (f:=fun xs=>xs.eraseIdxIfInBounds j) (l':=p.2.eraseIdx j) R h5 h1 h2 (by
            unfold Array.eraseIdxIfInBounds; rw [dif_pos hjl,Array.toList_eraseIdx]; exact h3.eraseIdx j) (Nat.le_trans (List.length_eraseIdx_le ..) h4)
          refine call_meets PySem.F.slot_list_pop ⟨_,h2,rfl⟩ PySem.F.entry_list_pop (PySem.F.args_list_pop_2 _ _) (PySem.MeetsSeq.list_pop_at a _ n i k j y' (idx_fits hj h4) (by rw [size_of h3]; exact (idx_seqIndex hj).1) e1 (by rw [size_of h3]; exact h4)) ⟨h2,?_⟩
          exact q _ t.tick _ u.1 u.2 (VRel.step u.1 (fun _ z=>z.elim) _ e2)
      | _=>exact no_stuck e
  | join =>
    delta bm1 at e; dsimp only at e
    cases X with
    | str x0 =>
     cases x0 with
     | cons=>exact no_stuck e
     | nil =>
     cases W with
     | lst l =>
      dsimp only at e
      cases hx:catStrs l with
      | none=>rw [hx] at e; exact no_stuck e
      | some x =>
        rw [hx] at e; dsimp only at e
        split at e
        · rename_i hz
          refine Sim.ok e ?_
          obtain ⟨a,vs,rfl,io,_,sz,rr⟩:=r2
          obtain ⟨k,rfl⟩:=r1
          obtain ⟨ys,h1,h2,h3⟩:=catStrs_real hx rr
          intro Q E q
          refine join_list io.isList h1 (by rw [h3]; unfold sizeMax at hz; show x.length + ys.length * 0 ≤ _; lia) fun t' k=>?_
          exact q _ t _ (Step.toks _ t s _) (R.toks _) ⟨t',by show Value.str (Txt.join (toStr []) ys) t' = _; rw [join_nil,h2]⟩
        · exact no_stuck e
     | _=>exact no_stuck e
    | _=>exact no_stuck e
  | _=>exact no_stuck e
noncomputable def bmUse:Bm → Bool
  | .upper=>false
  | .insert=>false
  | _=>true
theorem bm2_sound {m:Bm} (hm:bmUse m = true) {W U:V} {u:Value} (O:G.Ok N) (R:Rel G t st s) (hA:AOk d A) (r1:VRel t s.heap X v) (r2:VRel t s.heap W w) (r3:VRel t s.heap U u) (e:bm2 m X W U st = .ok Z st'):Sim G A t s (call (.builtin (bmVal m)) [v,w,u]) st' (vrel Z):=by
  cases m with
  | get =>
    simp only [bm2] at e
    split at e
    · rename_i p hp
      split at e
      · rename_i hk
        refine Sim.ok e ?_
        obtain ⟨a,kvs,rfl,h1,h2,h3,h4⟩:=dictAt_real R r1 hp
        cases W with
        | str x =>
          obtain ⟨k,rfl⟩:=r2
          have hd:(a == sysModules) = false:=by
            simp only [beq_eq_false_iff_ne,ne_eq]
            exact fun z=>R.sys p.1 (by rw [h1,z])
          have f:=DRel.find (x:=x) h3
          intro Q E q
          refine call_meetsIn PySem.F.slot_dict_get h2.typeIs PySem.F.entry_dict_get (PySem.F.args_dict_get_3 _ _ _) (meets_dict_get_default _ a (strKind_is G.prog G.w (toStr x) k) hd u) ⟨_,h2.mapOf,?_⟩
          refine q _ t _ (Step.toks _ t s _) (R.toks _) ?_
          cases z:dfind (.str x) p.2 with
          | none=>rw [z] at f; dsimp only at f; rw [f]; exact r3
          | some y=>rw [z] at f; obtain ⟨y',f1,f2⟩:=f; rw [f1]; exact f2
        | _=>exact no_ft hk
      · exact no_stuck e
    · exact no_stuck e
  | insert=>exact no_ft hm
  | _=>exact no_stuck e
theorem bmeth_sound {m:Bm} (hm:bmUse m = true) {Vs:List V} {vs:List Value} (O:G.Ok N) (R:Rel G t st s) (hA:AOk d A) (r1:VRel t s.heap X v) (r2:VRels t s.heap Vs vs) (e:bmeth m X Vs st = .ok Z st'):Sim G A t s (call (.builtin (bmVal m)) (v :: vs)) st' (vrel Z):=by
  unfold bmeth at e
  split at e
  · cases m <;> first | exact absurd hm (by decide) | (simp only [bm0] at e; exact no_stuck e)
  · obtain ⟨w,_,rfl,r2,rfl⟩:=r2
    exact bm1_sound O R hA r1 r2 e
  · obtain ⟨w,_,rfl,r2,u,_,rfl,r3,rfl⟩:=r2
    exact bm2_sound hm O R hA r1 r2 r3 e
  · exact no_stuck e
theorem bm_isType {m:Bm} (R:Rel G t st s) (r1:VRel t s.heap X v) (e:bmOk m X st = true):s.TypeIs v (bmType m) ∧ (∀ a,v = .ref a → ∃ ob,s.heap.get? a = some ob ∧ ob.dict = none):=by
  have li:(listAt X st).isSome = true → s.TypeIs v "list" ∧ (∀ a,v = .ref a → ∃ ob,s.heap.get? a = some ob ∧ ob.dict = none):=fun z=>by
    obtain ⟨p,hp⟩:=Option.isSome_iff_exists.mp z
    obtain ⟨a,vs,n,rfl,h1,h2,_⟩:=listAt_real R r1 hp
    exact ⟨⟨_,h2,rfl⟩,fun a' z=>by cases z; exact ⟨_,h2,rfl⟩⟩
  cases m <;> simp only [bmOk] at e <;> try exact li e
  · split at e
    · obtain ⟨a,vs,rfl,⟨n,ho⟩,_⟩:=r1
      exact ⟨⟨_,ho,rfl⟩,fun a' z=>by cases z; exact ⟨_,ho,rfl⟩⟩
    · exact no_ft e
  · obtain ⟨p,hp⟩:=Option.isSome_iff_exists.mp e
    obtain ⟨a,kvs,rfl,h1,h2,_⟩:=dictAt_real R r1 hp
    exact ⟨h2.typeIs,h2.mapOf.noDict⟩
  · split at e
    · obtain ⟨k,rfl⟩:=r1
      exact ⟨typeIs_str _ _ _,fun a z=>by cases z⟩
    · exact no_ft e
  · split at e
    · obtain ⟨k,rfl⟩:=r1
      exact ⟨typeIs_str _ _ _,fun a z=>by cases z⟩
    · exact no_ft e
theorem sim_bm (O:G.Ok N) {m:Bm} (hmu:bmUse m = true) {a:E} {x:PySem.Expr} {l:List E} {es:List PySem.Expr} {ap pos:Pos} (hx:notSuper x = true) (hln:(ap.endLine == pos.line) = true) (h30:es.length < 30) (hm:plainArgs es = true) (hlm:l.length = es.length)
    (ha:SimE G C d sc Γ a x) (hl:SimEs G C d sc Γ l es):SimE G C d sc Γ (.bm m a l) (.Call (.Attribute x (bmName m) ap) es [] pos):=by
  intro t st s env loc X st' A hA hsc F R e Q E q
  rw [ev_bm] at e
  obtain ⟨V,s1,e1,e⟩:=Res.bind_ok e
  split at e
  · rename_i hok
    obtain ⟨Vs,s2,e2,e⟩:=Res.bind_ok e
    refine wpAny_Call_method (base_plain hx _ _) (meth_form hm h30) hln (bm_attrs m) (bm_slot m) (bm_type m) ?_
    refine ha t st s env loc _ _ A hA hsc F R e1 _ _ fun v t1 σ1 S1 R1 r1=>?_
    obtain ⟨b1,b2⟩:=bm_isType R1 r1 hok
    refine ⟨b1,b2,?_⟩
    refine with_go O (keeps_b _) hm hlm hl hA hsc (F.step R S1) R1 e2 fun vs t2 σ2 S2 R2 r2=>?_
    exact bmeth_sound hmu O R2 hA (VRel.step S2 (fun _ z=>z.elim) _ r1) r2 e _ _ fun v t3 σ3 S3 R3 r3=>q v t3 σ3 ((S1.trans S2).trans S3) R3 r3
  · exact no_stuck e
end
end Mine
end
section
namespace Mine
open PySem PySem.W PyProof.Rows
section
variable {prog:Program} {w:World} {A:Around} {E:Value → Shared → Prop} {s:Shared}
theorem slicePart_of (o:Option (Int × Tok)) {Q:Option Int → Shared → Prop} (h:Q (o.map (·.1)) s):wpAny (model prog w) A (Builtin.Slice.slicePartIndex (partValue o)) Q E s:=by
 cases o with
 | none=>exact slicePart_none h
 | some p=>exact slicePart_int h
theorem adjust_of (l u:Option Int) (n i j:Nat) (hl:l.elim 0 (clipAt n) = i) (hu:u.elim n (clipAt n) = j):Builtin.Slice.sliceAdjust l u 1 (n:Int) = ((i:Int),(j:Int)):=by
 subst hl; subst hu
 have h1:¬ ((1:Int) < 0):=by decide
 have hc:∀ v:Int,((clipAt n v:Nat):Int) = if v < 0 then max (v + n) 0 else min v n:=fun v=>by
  rw [clipAt_cast]
  split <;> lia
 unfold Builtin.Slice.sliceAdjust
 simp only [h1,if_false]
 cases l <;> cases u <;> simp only [Option.elim,hc] <;> rfl
theorem places_of (i j:Nat):Builtin.Slice.slicePlaces (i:Int) (j:Int) 1 = j - i:=by
 unfold Builtin.Slice.slicePlaces
 have h1:(1:Int) > 0:=by decide
 simp only [h1,if_true,Int.ediv_one]
 split <;> lia
theorem pick_of (xs:Array Value) (i j:Nat):((List.range (j - i)).filterMap fun (k:Nat)=>xs[((i:Int) + (k:Int) * 1).toNat]?).toArray = ((xs.toList.drop i).take (j - i)).toArray:=by
 have e:(fun (k:Nat)=>xs[((i:Int) + (k:Int) * 1).toNat]?) = fun k=>xs[i + k]?:=by
  funext k
  have:((i:Int) + (k:Int) * 1).toNat = i + k:=by lia
  rw [this]
 rw [e]
 have:=pick_run xs i (j - i)
 rw [List.filterMap_map] at this
 exact congrArg List.toArray this
theorem sliceApplied_of {sl:Addr} {n i j:Nat} {o1 o2:Option (Int × Tok)} {Q:Int × Int × Nat → Shared → Prop} (hs:s.heap.IsSliceOf sl (partValue o1) (partValue o2) .none) (hl:(o1.map (·.1)).elim 0 (clipAt n) = i) (hu:(o2.map (·.1)).elim n (clipAt n) = j) (h:Q ((i:Int),1,j - i) s) :
  wpAny (model prog w) A (Builtin.Slice.sliceApplied (.ref sl) (pure (n:Int))) Q E s:=by
 obtain ⟨os,hos,hcs,hds⟩:=id hs
 unfold Builtin.Slice.sliceApplied Builtin.Slice.sliceFields
 refine wpAny_bind (wpAny_bind (wpAny_field hos hds (x:=partValue o1) rfl (wpAny_bind (wpAny_field hos hds (x:=partValue o2) rfl (wpAny_bind (wpAny_field hos hds (x:=.none) rfl (wpAny_pure ?_)))))))
 refine wpAny_bind (slicePart_none ?_)
 show wpAny _ _ (if ((1:Int) == 0) = true then _ else _) _ _ s
 rw [if_neg (by decide)]
 refine wpAny_bind (slicePart_of o1 (wpAny_bind (slicePart_of o2 (wpAny_bind (wpAny_pure ?_)))))
 show wpAny _ _ (match Builtin.Slice.sliceAdjust (o1.map (·.1)) (o2.map (·.1)) 1 (n:Int) with | (lo,hi)=>pure (lo,(1:Int),Builtin.Slice.slicePlaces lo hi 1)) _ _ s
 rw [adjust_of _ _ n i j hl hu]
 show wpAny _ _ (pure ((i:Int),(1:Int),Builtin.Slice.slicePlaces (i:Int) (j:Int) 1)) _ _ s
 rw [places_of]
 exact wpAny_pure h
theorem tup_slice_wp {t sl:Addr} {items:Array Value} {o1 o2:Option (Int × Tok)} {i j:Nat} {Q:Value → Shared → Prop} (ht:IsTup s.heap t items) (hs:s.heap.IsSliceOf sl (partValue o1) (partValue o2) .none) (hl:(o1.map (·.1)).elim 0 (clipAt items.size) = i) (hu:(o2.map (·.1)).elim items.size (clipAt items.size) = j) (hw:j - i ≠ items.size) (hsz:items.size ≤ sizeLine)
  (h:Q (.ref s.heap.objs.size) { s with heap:=s.heap.push { cls:=.type "tuple",data:=.seq ((items.toList.drop i).take (j - i)).toArray } }):wpAny (model prog w) A (PySem.getItem (.ref t) (.ref sl)) Q E s:=by
 have hok:sizeOk (.seq ((items.toList.drop i).take (j - i)).toArray):=by
  show ((items.toList.drop i).take (j - i)).toArray.size ≤ sizeLine
  rw [List.size_toArray,List.length_take,List.length_drop,Array.length_toList]
  lia
 obtain ⟨os,hos,hcs,hds⟩:=id hs
 have hTs:s.TypeIs (.ref sl) "slice":=⟨os,hos,hcs⟩
 unfold PySem.getItem
 try with_reducible refine wpAny_holding ?_
 first | refine wpAny_bind (wpAny_pure ?_) | skip
 refine wpAny_bind (wpAny_sequenceKey ht.typeIs (by decide) ?_)
 refine wpAny_bind (wpAny_callSpecial?_slot (name:=Str.ofString "__getitem__") ht.typeIs slot_tuple_getitem
  (wpAny_call_entry slot_tuple_getitem ht.typeIs entry_tuple_getitem ?_ (args_tuple_getitem _ _)))
 show wpAny _ _ (Builtin.Tuple.tupleItemsOf (.ref t) >>= _) _ _ s
 refine wpAny_bind (tupleItemsOf_ ht ?_)
 refine wpAny_bind (wpAny_typeOf hTs ?_)
 rw [if_pos (by decide)]
 refine wpAny_bind (sliceApplied_of hs hl hu ?_)
 have hno:¬ (((i:Int) == 0 && (1:Int) == 1 && (j - i) == items.size) = true):=by
  rw [beq_eq_false_iff_ne.2 hw,Bool.and_false]; exact Bool.false_ne_true
 show wpAny _ _ (if ((i:Int) == 0 && (1:Int) == 1 && (j - i) == items.size) = true then _ else _) _ _ s
 rw [if_neg hno,pick_of items i j]
 first
  | exact wpAny_bind (m:=Builtin.Tuple.tupleExact _) (wpAny_newObj_type (wpAny_pure ⟨_,rfl,wpAny_pure h⟩) hok)
  | exact wpAny_bind (m:=Builtin.Tuple.tupleExact _) (wpAny_newObj_type (wpAny_bind (wpAny_pure (wpAny_pure ⟨_,rfl,wpAny_pure h⟩))) hok)
  | exact wpAny_bind (wpAny_bind (m:=Builtin.Tuple.tupleExact _) (wpAny_newObj_type (wpAny_pure (wpAny_pure ⟨_,rfl,wpAny_pure h⟩)) hok))
  | exact wpAny_bind (wpAny_bind (m:=Builtin.Tuple.tupleExact _) (wpAny_newObj_type (wpAny_pure ⟨_,rfl,wpAny_pure h⟩) hok))
end
end Mine
end
section
namespace Mine
open PySem PySem.W PyProof.Rows
section
variable {G:Gd} {N:Names} {C:Calls} {d:Dp} {sc:Sc} {Γ:Gam} {A:Around} {t:Tie} {st st':MS} {s:Shared} {env:Env} {loc:Loc} {X Y Z:V} {v w:Value}
noncomputable abbrev prel (p:Option V):Tie → Shared → Value → Prop:=fun t s v=>match p with | none=>v = .none | some X=>VRel t s.heap X v
noncomputable def SimO (G:Gd) (C:Calls) (d:Dp) (sc:Sc) (Γ:Gam) (e:Option E) (ast:Option PySem.Expr):Prop :=
 ∀ t st s env loc p st' A,AOk d A → env.scope.names = sc → FrOk G A t env Γ loc s → Rel G t st s → evO G.P C e loc st = .ok p st' → Sim G A t s (evalPart ast env) st' (prel p)
theorem simO_none:SimO G C d sc Γ none none:=by
 intro t st s env loc p st' A hA hsc F R e Q E k
 simp only [evO_none,evO_some] at e
 cases e
 exact wpAny_pure (k _ t s (.refl _ _ _) R rfl)
theorem simO_some {e:E} {x:PySem.Expr} (h:SimE G C d sc Γ e x):SimO G C d sc Γ (some e) (some x):=by
 intro t st s env loc p st' A hA hsc F R e Q E k
 simp only [evO_none,evO_some] at e
 obtain ⟨v,s1,e1,e⟩:=Res.bind_ok e
 cases e
 exact h t st s env loc v _ A hA hsc F R e1 _ _ fun y t1 σ1 S1 R1 r1=>k y t1 σ1 S1 R1 r1
theorem cut_part {D n:Nat} {p:Option V} {i:Nat} (e:cutAt D p = some i) (r:prel p t s v):∃ o:Option (Int × Tok),v = partValue o ∧ (o.map (·.1)).elim (min D n) (clipAt n) = min i n:=by
 cases p with
 | none=>cases e; exact ⟨none,r,rfl⟩
 | some X =>
  cases X with
  | int z =>
   simp only [cutAt] at e
   split at e
   ·rename_i hz
    cases e
    obtain ⟨k,rfl⟩:=r
    refine ⟨some (z,k),rfl,?_⟩
    have:z = (z.toNat:Int):=by lia
    show clipAt n z = _
    rw [this,clipAt_nat]; rfl
   ·exact no_none e
  | _=>exact no_none e
theorem isPart_of (o:Option (Int × Tok)):IsPart (partValue o) (o.map (·.1)):=by
 cases o with
 | none=>exact .none
 | some p=>exact .int p.1 p.2
theorem cut_list {α:Type} (l:List α) (i j n:Nat) (hn:n = l.length):(l.drop (min i n)).take (min j n - min i n) = (l.take j).drop i:=by
 rw [List.drop_take]
 subst hn
 rcases Nat.le_total i l.length with h | h
 ·rw [Nat.min_eq_left h]
  rcases Nat.le_total j l.length with h2 | h2
  ·rw [Nat.min_eq_left h2]
  ·rw [Nat.min_eq_right h2,List.take_of_length_le (by simp),List.take_of_length_le (by simp; lia)]
 ·rw [Nat.min_eq_right h,List.drop_of_length_le (Nat.le_refl _),List.drop_of_length_le h]; simp
theorem str_slice (x:List Nat) (l u:Option Int) (i j:Nat) (hl:l.elim 0 (clipAt x.length) = min i x.length) (hu:u.elim x.length (clipAt x.length) = min j x.length):Txt.slice (toStr x) l u = toStr ((x.take j).drop i):=by
 have hlen:(toStr x).length = x.length:=by simp [toStr,PySem.Str.length]
 have hidx:Builtin.Str.strSliceIndices l u 1 x.length = (List.range (min j x.length - min i x.length)).map (min i x.length + ·):=by
  rw [← sliceRange_one]
  unfold Builtin.Str.strSliceIndices
  simp only [show (1:Int) > 0 by decide,if_true]
  rw [← hl,← hu]
  cases l <;> cases u <;> simp [clipAt_cast]
 have hpick:=pick_run x.toArray (min i x.length) (min j x.length - min i x.length)
 unfold Txt.slice
 rw [hlen,hidx]
 split
 ·rename_i hw
  simp only [BEq.rfl,Bool.true_and,List.length_map,List.length_range,beq_iff_eq] at hw
  rw [← cut_list x i j _ rfl]
  have h1:min i x.length = 0:=by lia
  rw [h1] at hw ⊢
  rw [hw]; simp
 ·show PySem.Str.mk _ = PySem.Str.mk _
  congr 1
  rw [← cut_list x i j _ rfl]
  show (List.filterMap (fun k=>x.toArray[k]?) _).toArray = _
  rw [hpick]
theorem str_slice_wp {x:PySem.Str} {tk:Tok} {a:Addr} {l u:Option (Int × Tok)} {Q E:Value → Shared → Prop} (hs:s.heap.IsSlice a l u none) (hsz:x.length ≤ sizeLine)
  (h:∀ t' k,Q (.str (Txt.slice x (l.map (·.1)) (u.map (·.1))) t') { s with toks:=k }):wpAny G.M A (PySem.getItem (.str x tk) (.ref a)) Q E s :=
 wpAny_getItem_str_slice hs rfl (post_val_or_str ⟨Nat.le_trans (Txt.slice_le x _ _) hsz,h⟩)
theorem cut_le {α:Type} (m:List α) (i j:Nat):((m.take j).drop i).length ≤ m.length:=by
 rw [List.length_drop,List.length_take]; exact Nat.le_trans (Nat.sub_le ..) (Nat.min_le_right ..)
theorem cut_part_ne {m:List V} {i j:Nat} (h:((m.take j).drop i).length < m.length):min j m.length - min i m.length ≠ m.length:=by
 rw [List.length_drop,List.length_take] at h
 omega
theorem sim_slice {a:E} {lo hi:Option E} {x:PySem.Expr} {l u:Option PySem.Expr} {sp pos:Pos} (ha:SimE G C d sc Γ a x) (hlo:SimO G C d sc Γ lo l) (hhi:SimO G C d sc Γ hi u):SimE G C d sc Γ (.slice a lo hi) (.Subscript x (.Slice l u none sp) pos):=by
 intro t st s env loc X st' A hA hsc F R e Q E k
 rw [ev_slice] at e
 obtain ⟨B,s1,e1,e⟩:=Res.bind_ok e
 obtain ⟨p,s2,e2,e⟩:=Res.bind_ok e
 obtain ⟨q,s3,e3,e⟩:=Res.bind_ok e
 refine Subscript_ (ha t st s env loc _ _ A hA hsc F R e1 _ _ fun v t1 σ1 S1 R1 r1=>?_)
 have F1:=F.step R S1
 refine wpAny_Slice (hlo t1 s1 σ1 env loc p s2 A hA hsc F1 R1 e2 _ _ fun vl t2 σ2 S2 R2 r2=>?_)
 have F2:=F1.step R1 S2
 refine hhi t2 s2 σ2 env loc q s3 A hA hsc F2 R2 e3 _ _ fun vu t3 σ3 S3 R3 r3=>?_
 rw [evalPart_none]
 refine wpAny_pure ?_
 have r1':=VRel.step (S2.trans S3) (fun _ z=>z.elim) _ r1
 have r2':prel p t3 σ3 vl:=by
  cases p with
  | none=>exact r2
  | some X=>exact VRel.step S3 (fun _ z=>z.elim) _ r2
 have hsub:∀ o i,subscripted (.Slice l u none sp) false o i = operate [i,o] (PySem.getItem o i):=fun _ _=>rfl
 have S4:=Step.push R3 { cls:=.type "slice",data:=.fields #[vl,vu,.none] }
 have R4:=R3.push { cls:=.type "slice",data:=.fields #[vl,vu,.none] }
 have lists:∀ {m:List V} {i j:Nat},seqOf s3 B = some (true,m) → cutAt 0 p = some i → cutAt m.length q = some j → X = .lst ((m.take j).drop i) → st' = s3 →
   wpAny G.M A (subscriptTail x (.Slice l u none sp) v (.ref σ3.heap.objs.size)) Q E { σ3 with heap:=σ3.heap.push { cls:=.type "slice",data:=.fields #[vl,vu,.none] } }:=by
  rintro m i j hm hi hj rfl rfl
  obtain ⟨a,vs,rfl,io,rr,sz⟩:=seqOf_real R3 r1' hm
  simp only [if_true] at io
  have hsz:vs.size = m.length:=size_of rr
  obtain ⟨o1,rfl,p1⟩:=cut_part (n:=m.length) hi r2'
  obtain ⟨o2,rfl,p2⟩:=cut_part (n:=m.length) hj r3
  rw [Nat.zero_min] at p1
  rw [Nat.min_self] at p2
  have io4:=io.isList.push { cls:=.type "slice",data:=.fields #[partValue o1,partValue o2,.none] }
  refine tail_any io4.typeIs slot_list_getitem.lookup (wpAny_getItem_list_slice io4 (Heap.IsSliceOf.new ..) (isPart_of o1) (isPart_of o2) .none (by simp) ?_ (by rw [hsz]; exact sz)) (hsub _ _)
  have hpick:slicePick vs (o1.map (·.1)) (o2.map (·.1)) none = ((vs.toList.take j).drop i).toArray:=by
   rw [slicePick_plain,hsz,p1,p2,cut_list _ _ _ _ (by rw [← hsz]; simp)]
  have rr4:=VRels.step S4 (fun _ z=>z.elim) _ rr
  have rr5:=VRels.drop i (VRels.take j rr4)
  have hl:=Nat.le_trans (cut_le m i j) sz
  have S5:=Step.push R4 { cls:=.type "list",data:=.seq (slicePick vs (o1.map (·.1)) (o2.map (·.1)) none) }
  refine k _ t3 _ ((((S1.trans S2).trans S3).trans S4).trans S5) (R4.push _) ?_
  rw [hpick]
  exact VRel.newL R4 rr5 hl
 have tups:∀ {m:List V} {i j:Nat},seqOf s3 B = some (false,m) → cutAt 0 p = some i → cutAt m.length q = some j → ((m.take j).drop i).length < m.length → X = .tup ((m.take j).drop i) → st' = s3 →
   wpAny G.M A (subscriptTail x (.Slice l u none sp) v (.ref σ3.heap.objs.size)) Q E { σ3 with heap:=σ3.heap.push { cls:=.type "slice",data:=.fields #[vl,vu,.none] } }:=by
  rintro m i j hm hi hj hw rfl rfl
  obtain ⟨a,vs,rfl,⟨n,io⟩,rr,sz⟩:=seqOf_real R3 r1' hm
  have hsz:vs.size = m.length:=size_of rr
  obtain ⟨o1,rfl,p1⟩:=cut_part (n:=m.length) hi r2'
  obtain ⟨o2,rfl,p2⟩:=cut_part (n:=m.length) hj r3
  rw [Nat.zero_min] at p1
  rw [Nat.min_self] at p2
  have io4:IsTup (σ3.heap.push { cls:=.type "slice",data:=.fields #[partValue o1,partValue o2,.none] }) a vs:=⟨_,Heap.get?_push_of_some _ io,rfl,n,rfl⟩
  refine tail_any io4.typeIs slot_tuple_getitem.lookup (tup_slice_wp (i:=min i m.length) (j:=min j m.length) io4 (Heap.IsSliceOf.new ..) (by rw [hsz]; exact p1) (by rw [hsz]; exact p2) (by rw [hsz]; exact cut_part_ne hw) (by rw [hsz]; exact sz) ?_) (hsub _ _)
  rw [cut_list vs.toList i j _ (by rw [← hsz]; exact Array.length_toList.symm)]
  have rr5:=VRels.drop i (VRels.take j (VRels.step S4 (fun _ z=>z.elim) _ rr))
  have hl:=Nat.le_trans (cut_le m i j) sz
  have S5:=Step.push R4 { cls:=.type "tuple",data:=.seq ((vs.toList.take j).drop i).toArray }
  exact k _ t3 _ ((((S1.trans S2).trans S3).trans S4).trans S5) (R4.push _) (VRel.newT R4 rr5 hl)
 unfold getSlice at e
 split at e
 ·rename_i y _ _
  split at e
  ·rename_i i j hi hj
   split at e
   ·rename_i hz
    obtain ⟨rfl,rfl⟩:X = .str ((y.take j).drop i) ∧ st' = s3:=by cases e; exact ⟨rfl,rfl⟩
    obtain ⟨ky,rfl⟩:=r1'
    obtain ⟨o1,rfl,p1⟩:=cut_part (n:=y.length) hi r2'
    obtain ⟨o2,rfl,p2⟩:=cut_part (n:=y.length) hj r3
    rw [Nat.zero_min] at p1
    rw [Nat.min_self] at p2
    have hs:=str_slice y _ _ i j p1 p2
    have hlen:(toStr y).length = y.length:=by simp [toStr,PySem.Str.length]
    have hzz:(toStr y).length ≤ sizeLine:=by rw [hlen]; exact hz
    refine tail_any (typeIs_str _ _ _) PySem.F.slot_str_getitem.lookup (str_slice_wp (l:=o1) (u:=o2) ⟨_,Heap.get?_push_size _ rfl,rfl,rfl⟩ hzz fun t' k'=>?_) (hsub _ _)
    refine k _ t3 _ ((((S1.trans S2).trans S3).trans S4).trans (Step.toks _ _ _ k')) (R4.toks k') ⟨t',?_⟩
    rw [hs]
   ·exact no_stuck e
  ·exact no_stuck e
 ·split at e
  ·rename_i m hm
   split at e
   ·rename_i i j hi hj
    obtain ⟨h1,h2⟩:X = .lst ((m.take j).drop i) ∧ st' = s3:=by cases e; exact ⟨rfl,rfl⟩
    exact lists hm hi hj h1 h2
   ·exact no_stuck e
  ·rename_i m hm
   split at e
   ·rename_i i j hi hj
    obtain ⟨hw,h1,h2⟩:=ite_ok e
    exact tups hm hi hj hw h1.symm h2.symm
   ·exact no_stuck e
  ·exact no_stuck e
end
end Mine
end
section
set_option maxRecDepth 100000
namespace Mine
open PySem PySem.W PyProof.Rows
section
variable {G:Gd} {N:Names} {C:Calls} {d:Dp} {sc:Sc} {Γ:Gam} {A:Around} {t:Tie} {st st':MS} {s:Shared} {env:Env} {loc:Loc} {X Y Z:V} {v w:Value}
noncomputable def tagName:Tag → String
 | .none=>"NoneType" | .bool=>"bool" | .int=>"int" | .str=>"str" | .tuple=>"tuple" | .list=>"list" | .dict=>"dict"
noncomputable def kindStr:Kind → String
 | .int=>"int" | .bool=>"bool" | .str=>"str" | .list=>"list" | .tuple=>"tuple" | .valueError=>"ValueError" | .cls _=>""
noncomputable def kindUse:Kind → Bool
 | .int=>true | .bool=>true | .str=>true | .list=>true | .tuple=>true | _=>false
theorem kit_tag (K:Frag) (g:Tag) (k:Kind) (hk:kindUse k = true) {b:Bool} (e:kindHas g k = some b):kitOne K (.type (tagName g)) (.type (kindStr k)) = some b:=by
 cases k <;> first | exact (Bool.false_ne_true hk).elim | skip
 all_goals (cases g <;> cases e <;> kernel_rfl)
theorem tag_kit (R:Rel G t st s) {g:Tag} (r:VRel t s.heap X v) (e:tagOf st X = some g):∃ H,KitX G.K v (.type (tagName g)) H ∧ H s.heap ∧ v ≠ .builtin "__main__.__loader__#opaque":=by
 cases X with
 | none=>cases e; have r:v = .none:=r; subst r; exact ⟨_,kitx_none,trivial,nofun⟩
 | bool b=>cases e; have r:v = .bool b:=r; subst r; exact ⟨_,kitx_bool,trivial,nofun⟩
 | int i=>cases e; obtain ⟨k,rfl⟩:=r; exact ⟨_,kitx_int,trivial,nofun⟩
 | str i=>cases e; obtain ⟨k,rfl⟩:=r; exact ⟨_,kitx_str,trivial,nofun⟩
 | tup l=>cases e; obtain ⟨a,vs,rfl,⟨n,ho⟩,_⟩:=r; exact ⟨_,kitx_tuple,⟨_,ho,rfl⟩,nofun⟩
 | lst l=>cases e; obtain ⟨a,vs,rfl,⟨n,ho⟩,_⟩:=r; exact ⟨_,kitx_list,⟨_,ho,rfl⟩,nofun⟩
 | exc c=>exact no_none e
 | ref l =>
  simp only [tagOf] at e
  split at e
  ·rename_i m hl
   cases e
   obtain ⟨a,vs,h1,⟨n,h2⟩,_⟩:=R.objs l _ hl
   obtain ⟨a',rfl,e2⟩:=r
   rw [h1] at e2; cases e2
   exact ⟨_,kitx_list,⟨_,h2,rfl⟩,nofun⟩
  ·rename_i m hl
   cases e
   obtain ⟨a,kvs,h1,h2,_⟩:=R.objs l _ hl
   obtain ⟨a',rfl,e2⟩:=r
   rw [h1] at e2; cases e2
   obtain ⟨o,h3,h4⟩:=h2.typeIs
   exact ⟨_,kitx_dict,⟨o,h3,h4⟩,nofun⟩
  ·exact no_none e
theorem isKind_tag {P:Prog} {k:Kind} {b:Bool} (hk:kindUse k = true) (e:isKind P st X k = some b):∃ g,tagOf st X = some g ∧ kindHas g k = some b:=by
 unfold isKind at e
 split at e
 ·cases k <;> first | exact (Bool.false_ne_true hk).elim | exact no_none e
 ·split at e
  ·rename_i g hg; exact ⟨g,hg,e⟩
  ·exact no_none e
theorem isKinds_any {P:Prog} (K:Frag):∀ {ks:List Kind} {b:Bool} {g:Tag},(∀ k ∈ ks,kindUse k = true) → tagOf st X = some g → isKinds P st X ks = some b → kitAny K (.type (tagName g)) (ks.map fun k=>.type (kindStr k)) = some b
 | [],_,_,_,_,e=>by cases e; rfl
 | k :: ks,b,g,hu,hg,e=>by
  simp only [isKinds] at e
  simp only [List.map_cons,kitAny]
  cases q:isKind P st X k with
  | none=>rw [q] at e; exact no_none e
  | some b' =>
   rw [q] at e
   obtain ⟨g',h1,h2⟩:=isKind_tag (hu k (.head _)) q
   rw [hg] at h1; cases h1
   rw [kit_tag K g k (hu k (.head _)) h2]
   cases b' with
   | true=>cases e; rfl
   | false=>exact isKinds_any K (fun k hk=>hu k (.tail _ hk)) hg e
theorem kind_boot (k:Kind) (hk:kindUse k = true):∃ x:PySem.Str,kindName k = some x ∧ bootBuiltins x = some (.type (kindStr k)) ∧ x ∈ (["len","max","int","sorted","tuple","list","all","isinstance","range","dict","bool","str","ValueError"]:List PySem.Str):=by
 cases k <;> first | exact (Bool.false_ne_true hk).elim | exact ⟨_,rfl,by decide +kernel,by decide⟩
theorem kind_eval (O:G.Ok N) (F:FrOk G A t env Γ loc s) (R:Rel G t st s) (hsc:env.scope.names = sc) {k:Kind} (hk:kindUse k = true) {y:PySem.Expr} (hc:chkKind N sc k y = true) {Q E':Value → Shared → Prop} (h:Q (.type (kindStr k)) s):isStarred y = false ∧ wpAny G.M A (eval y env) Q E' s:=by
 obtain ⟨x,h1,h2,h3⟩:=kind_boot k hk
 cases y with
 | Name x' p =>
  obtain ⟨hx,hg⟩:=Bool.and_eq_true_iff.1 (hc:(kindName k == some x' && glob sc x') = true)
  cases h1.symm.trans (eq_of_beq hx)
  exact ⟨rfl,built_glob O F R hsc hg h3 h2 h⟩
 | _=>exact no_ft hc
theorem kinds_eval (O:G.Ok N) (hsc:env.scope.names = sc) (pos:Pos):∀ {ks:List Kind} {ys:List PySem.Expr} {Q:List Value → Shared → Prop} {E':Value → Shared → Prop},(∀ k ∈ ks,kindUse k = true) → chkKinds N sc ks ys = true → ∀ {t:Tie} {st:MS} {s:Shared},FrOk G A t env Γ loc s → Rel G t st s →
  Q (ks.map fun k=>.type (kindStr k)) s → wpAny G.M A (spliced (backTo pos (starEach ys env))) Q E' s
 | [],[],_,_,_,_,_,_,_,_,_,h=>Calls.spliced_nil h
 | [],_ :: _,_,_,_,e,_,_,_,_,_,_=>by exact no_ft e
 | _ :: _,[],_,_,_,e,_,_,_,_,_,_=>by exact no_ft e
 | k :: ks,y :: ys,Q,E',hu,e,t,st,s,F,R,h=>by
  have e:=Bool.and_eq_true_iff.1 (e:(chkKind N sc k y && chkKinds N sc ks ys) = true)
  have hs:=(kind_eval (A:=A) (Q:=fun _ _=>True) (E':=fun _ _=>True) O F R hsc (hu k (.head _)) e.1 trivial).1
  refine wpAny_items_cons (kind_eval O F R hsc (hu k (.head _)) e.1 ?_).2 (star_false hs ys env)
  exact kinds_eval O hsc pos (fun k hk=>hu k (.tail _ hk)) e.2 F R h
theorem args2_go {f:Value} {pos:Pos} {x y:PySem.Expr} {Q:Args → Shared → Prop} {E':Value → Shared → Prop} (hx:isStarred x = false) (hy:isStarred y = false)
  (h:wpAny G.M A (eval x env) (fun v s1=>wpAny G.M A (eval y env) (fun w s2=>Q ⟨[v,w],[]⟩ s2) E' s1) E' s):wpAny G.M A (evalArgs f true (backTo pos (starEach [x,y] env)) []) Q E' s:=by
 have q:wpAny G.M A (spliced (backTo pos (starEach [x,y] env))) (fun vs s'=>Q ⟨vs,[]⟩ s') E' s:=by
  refine wpAny_items_cons (wpAny_mono h (fun v s1 h1=>?_) fun _ _ e=>e) (star_false hx [y] env)
  refine wpAny_items_cons (wpAny_mono h1 (fun w s2 h2=>?_) fun _ _ e=>e) (star_false hy [] env)
  exact Calls.spliced_nil h2
 rw [star_false hx] at q ⊢
 exact Calls.evalArgs_plain q
theorem sim_isinst1 (O:G.Ok N) {a:E} {x y:PySem.Expr} {k:Kind} {np pos:Pos} (hk:kindUse k = true) (hg:glob sc "isinstance" = true) (hx:isStarred x = false) (hc:chkKind N sc k y = true) (ha:SimE G C d sc Γ a x) :
  SimE G C d sc Γ (.isinst a [k]) (.Call (.Name "isinstance" np) [x,y] [] pos):=by
 intro t st s env loc X st' A hA hsc F R e Q E q
 rw [ev_isinst] at e
 obtain ⟨V,s1,e1,e⟩:=Res.bind_ok e
 unfold okB at e
 split at e
 ·rename_i b hb
  obtain ⟨rfl,rfl⟩:X = .bool b ∧ st' = s1:=by cases e; exact ⟨rfl,rfl⟩
  have hy:=(kind_eval (A:=A) (Q:=fun _ _=>True) (E':=fun _ _=>True) O F R hsc hk hc trivial).1
  have hkk:isKind G.P st' V k = some b:=by
   simp only [isKinds] at hb
   cases z:isKind G.P st' V k with
   | none=>rw [z] at hb; exact no_none hb
   | some b'=>rw [z] at hb; cases b' <;> exact hb
  obtain ⟨g,g1,g2⟩:=isKind_tag hk hkk
  refine wpAny_Call_ofName (built_glob (v:=.builtin "isinstance") O F R hsc hg (by decide) (by decide +kernel) ?_)
  refine callWith_of (P:=G.K.In) (by rw [star_plain pos env (m:=[x,y]) (by simp [plainArgs,hx,hy])]; rfl) (keeps_b _) (args2_go hx hy ?_)
  refine ha t st s env loc _ _ A hA hsc F R e1 _ _ fun v t1 σ1 S1 R1 r1=>?_
  refine (kind_eval O (F.step R S1) R1 hsc hk hc ?_).2
  have XK:=O.K.keeps R1.base
  refine ⟨XK,?_⟩
  obtain ⟨H,Z,hH,hne⟩:=tag_kit R1 r1 g1
  exact kia_one Z XK hH (kit_tag G.K g k hk g2) hne fun tk=>q _ t1 _ (S1.trans (Step.toks _ _ _ tk)) (R1.toks tk) rfl
 ·exact no_stuck e
theorem sim_isinst2 (O:G.Ok N) {a:E} {x:PySem.Expr} {ys:List PySem.Expr} {k k':Kind} {np pos tp:Pos} {cx:Nat} (hk:kindUse k = true) (hk':kindUse k' = true) (hg:glob sc "isinstance" = true) (hx:isStarred x = false) (hc:chkKinds N sc [k,k'] ys = true) (ha:SimE G C d sc Γ a x) :
  SimE G C d sc Γ (.isinst a [k,k']) (.Call (.Name "isinstance" np) [x,.Tuple ys cx tp] [] pos):=by
 intro t st s env loc X st' A hA hsc F R e Q E q
 rw [ev_isinst] at e
 obtain ⟨V,s1,e1,e⟩:=Res.bind_ok e
 unfold okB at e
 split at e
 ·rename_i b hb
  obtain ⟨rfl,rfl⟩:X = .bool b ∧ st' = s1:=by cases e; exact ⟨rfl,rfl⟩
  have hu:∀ z ∈ [k,k'],kindUse z = true:=by intro z hz; simp at hz; rcases hz with rfl | rfl <;> assumption
  obtain ⟨b0,hb0⟩:∃ b0,isKind G.P st' V k = some b0:=by
   simp only [isKinds] at hb
   cases z:isKind G.P st' V k with
   | none=>rw [z] at hb; exact no_none hb
   | some b'=>exact ⟨b',rfl⟩
  obtain ⟨g,g1,g2⟩:=isKind_tag hk hb0
  refine wpAny_Call_ofName (built_glob (v:=.builtin "isinstance") O F R hsc hg (by decide) (by decide +kernel) ?_)
  refine callWith_of (P:=G.K.In) (by rw [star_plain pos env (m:=[x,.Tuple ys cx tp]) (by show (!isStarred x && (!false && true)) = true; rw [hx]; rfl)]; rfl) (keeps_b _) (args2_go hx rfl ?_)
  refine ha t st s env loc _ _ A hA hsc F R e1 _ _ fun v t1 σ1 S1 R1 r1=>?_
  refine wpAny_Tuple (kinds_eval O hsc _ hu hc (F.step R S1) R1 ⟨by rw [List.length_map,sizeLine_eq]; exact Nat.le_of_ble_eq_true rfl,?_⟩)
  have R2:=R1.push { cls:=.type "tuple",data:=.seq ([k,k'].map fun k=>Value.type (kindStr k)).toArray }
  have S2:=Step.push R1 { cls:=.type "tuple",data:=.seq ([k,k'].map fun k=>Value.type (kindStr k)).toArray }
  have XK:=O.K.keeps R2.base
  refine ⟨XK,?_⟩
  obtain ⟨H,Z,hH,hne⟩:=tag_kit R2 (VRel.step S2 (fun _ z=>z.elim) _ r1) g1
  exact kia_tup Z XK hH (Heap.get?_push_size _ rfl) (isKinds_any G.K hu g1 hb) hne fun tk=>q _ t1 _ ((S1.trans S2).trans (Step.toks _ _ _ tk)) (R2.toks tk) rfl
 ·exact no_stuck e
end
end Mine
end
section
set_option maxRecDepth 100000
namespace Mine
open PySem PySem.W PyProof.Rows
section
variable {G:Gd} {N:Names} {C:Calls} {d:Dp} {sc:Sc} {Γ:Gam} {A:Around} {t:Tie} {st st':MS} {s:Shared} {env:Env} {loc:Loc} {X Y Z:V} {v w:Value}
theorem stored_cons (k k':PySem.Str) (u y:Value) (r:List (PySem.Str × Value)) (h:k' ≠ k):stored ((k',u) :: r) k y = (k',u) :: stored r k y:=by
 unfold stored
 simp only [List.any_cons,h,decide_false,Bool.false_or,List.map_cons,if_false]
 split <;> rfl
theorem stored_head (k:PySem.Str) (u y:Value) (r:List (PySem.Str × Value)) (h:k ∉ r.map (·.1)):stored ((k,u) :: r) k y = (k,y) :: r:=by
 unfold stored
 simp only [List.any_cons,decide_true,Bool.true_or,if_true,List.map_cons]
 congr 1
 conv=>rhs; rw [← List.map_id r]
 refine List.map_congr_left fun p hp=>?_
 rw [if_neg (fun z=>h (List.mem_map.mpr ⟨p,hp,z⟩))]; rfl
theorem toStr_inj {a b:List Nat} (h:toStr a = toStr b):a = b:=by
 have:=congrArg (fun z=>z.cps.toList) h
 simpa [toStr] using this
theorem DRel.put {h:Heap} {x:List Nat} {y:Value}:∀ {dd:List (V × V)} {kvs:List (PySem.Str × Value)},DRel t h dd kvs → (kvs.map (·.1)).Nodup → VRel t h Y y → DRel t h (dput (.str x) Y dd) (stored kvs (toStr x) y)
 | [],_,e,_,r=>by cases e; exact ⟨x,y,[],rfl,rfl,r,rfl⟩
 | (k,u) :: r,_,⟨z,y',rest,e1,e2,e3,e4⟩,nd,ry=>by
  subst e1; subst e2
  rw [List.map_cons,List.nodup_cons] at nd
  by_cases q:z = x
  ·subst q
   rw [stored_head _ _ _ _ nd.1]
   have hh:dput (.str z) Y ((V.str z,u) :: r) = (V.str z,Y) :: r:=if_pos (decide_eq_true rfl)
   rw [hh]
   exact ⟨z,y,rest,rfl,rfl,ry,e4⟩
  ·have q':toStr z ≠ toStr x:=fun e=>q (toStr_inj e)
   rw [stored_cons _ _ _ _ _ q']
   have hh:dput (.str x) Y ((V.str z,u) :: r) = (V.str z,u) :: dput (.str x) Y r:=if_neg (by rw [show keyEq (V.str z) (V.str x) = decide (z = x) from rfl,decide_eq_false q]; exact Bool.false_ne_true)
   rw [hh]
   exact ⟨z,y',_,rfl,rfl,e3,DRel.put e4 nd.2 ry⟩
theorem DRel.length {h:Heap}:∀ {dd:List (V × V)} {kvs:List (PySem.Str × Value)},DRel t h dd kvs → kvs.length = dd.length
 | [],_,e=>by cases e; rfl
 | (k,u) :: r,_,⟨z,y',rest,e1,e2,e3,e4⟩=>by subst e2; simp [DRel.length e4]
theorem set_list_plain {l:Addr} {items:Array Value} {n:Nat} {k:Int} {tk:Tok} {u:Value} {Q:Unit → Shared → Prop} {E:Value → Shared → Prop} (ho:s.heap.get? l = some { cls:=.type "list",data:=.seq items n })
  (h0:0 ≤ k) (hfit:k < 2 ^ 63) (hn:k < items.size) (hQ:Q () { s with heap:=s.heap.update l (Obj.mapSeq (·.setIfInBounds k.toNat u)) }) :
  wpAny G.M A (PySem.setItem (.ref l) (.int k tk) u) Q E s:=by
 have hl:s.heap.IsList l items:=⟨_,ho,rfl,n,rfl⟩
 unfold PySem.setItem
 try with_reducible refine wpAny_holding ?_
 first | refine wpAny_bind (wpAny_pure ?_) | skip
 refine wpAny_bind (wpAny_sequenceKey hl.typeIs (by decide) ?_)
 refine wpAny_bind (wpAny_callSpecial?_slot (name:=Str.ofString "__setitem__") hl.typeIs slot_list_setitem
  (wpAny_call_entry slot_list_setitem hl.typeIs entry_list_setitem ?_ (args_list_setitem _ _ _)))
 show wpAny _ _ (Builtin.List.listSubscript? (.int k tk) >>= _) _ _ s
 refine wpAny_bind (wpAny_listSubscript_int (fitsIndex_of h0 hfit) ?_)
 clear hfit
 obtain ⟨j,rfl⟩:=Int.eq_ofNat_of_zero_le h0
 have hj:j < items.size:=by lia
 have hx':items[j]? = some items[j]:=Array.getElem?_eq_getElem hj
 show wpAny _ _ ((seqItemAt l j >>= fun r=>pure (r.map (j,·))) >>= _) _ _ s
 refine wpAny_bind (wpAny_bind (wpAny_seqItemAt ho rfl (wpAny_pure ?_)))
 rw [hx']
 show wpAny _ _ (setSeqItemAt l j u >>= _) _ _ s
 refine wpAny_bind (wpAny_setSeqItemAt ho rfl ?_)
 first
  | exact wpAny_bind (wpAny_pure (wpAny_pure ⟨.none,rfl,wpAny_pure hQ⟩))
  | exact wpAny_pure ⟨.none,rfl,wpAny_pure hQ⟩
theorem setItem_sound {U:V} {u:Value} {r:Unit} (R:Rel G t st s) (hX:VRel t s.heap X v) (hY:VRel t s.heap Y w) (hU:VRel t s.heap U u) (e:setItem X Y U st = .ok r st'):Sim G A t s (PySem.setItem v w u) st' (fun _ _ _=>True):=by
 unfold setItem at e
 split at e
 ·rename_i p hp
  split at e
  ·rename_i i
   split at e
   ·rename_i hi
    cases e
    obtain ⟨a,vs,n,rfl,h1,h2,h3,h4,h5⟩:=listAt_real R hX hp
    obtain ⟨k,rfl⟩:=hY
    have hsz:=size_of h3
    intro Q E q
    have hb:i < 2 ^ 63:=by have:=fit63 h4; lia
    refine set_list_plain h2 hi.1 hb (by rw [hsz]; exact hi.2) ?_
    have u:=seq_upd (tk:=s.toks) (f:=fun xs=>xs.setIfInBounds i.toNat u) (l':=p.2.set i.toNat U) R h5 h1 h2 (by rw [Array.toList_setIfInBounds]; exact h3.set i.toNat hU) (by simpa using h4)
    exact q _ t.tick _ u.1 u.2 trivial
   ·exact no_stuck e
  ·exact no_stuck e
 ·split at e
  ·rename_i p hp
   split at e
   ·rename_i hk
    cases e
    obtain ⟨a,kvs,rfl,h1,h2,h3,h4⟩:=dictAt_real R hX hp
    cases Y with
    | str x =>
     obtain ⟨k,rfl⟩:=hY
     intro Q E q
     have nd:(kvs.map (·.1)).Nodup:=by obtain ⟨o,es,ep,a1,a2,a3,a4,a5,a6⟩:=h2; exact a6
     refine wpAny_setItem_pairs (strKind_is G.prog G.w (toStr x) k) h2 (fun h' hd hs=>?_) (by rw [h3.length]; exact Nat.le_of_lt hk.2)
     have hl:(h'.get? a).isSome = true:=by obtain ⟨o,es,ep,ho,_⟩:=hd; rw [ho]; rfl
     have S:=Step.upd (t:=t) (s:=s) (tk:=s.toks + 1) ⟨p.1,.inl h1⟩ hl hs
     refine q _ t.tick _ S (R.upd (l:=p.1) (.inl h1) hl hs (by rw [h4]; exact fun z=>by cases z) ⟨a,_,h1,hd,?_⟩) trivial
     exact DRel.step S (fun _ z=>z.elim) (DRel.put h3 nd hU)
    | _=>cases hk.1
   ·exact no_stuck e
  ·exact no_stuck e
theorem sim_dict0 (O:G.Ok N) {kd:Nat} {pos:Pos}:SimE G C d sc Γ (.dictM kd [] []) (.Dict [] [] pos):=by
 intro t st s env loc X st' A hA hsc F R e Q E k
 simp only [ev_dictM,evL_nil,evL_cons,Res.bind] at e
 rw [if_pos ⟨rfl,by decide,List.nodup_nil⟩] at e
 obtain ⟨rfl,rfl⟩:X = .ref (kd,st.cnt kd) ∧ st' = st.new kd (.dict []):=by cases e; exact ⟨rfl,rfl⟩
 refine wpAny_Dict_empty ?_
 have hk:∀ b o,s.heap.get? b = some o → (s.heap.push ({ cls:=.type "dict",data:=.dict #[] }:Obj)).get? b = some o:=fun _ _ e=>Heap.get?_push_of_some _ e
 have S:=Step.bind (k:=kd) (d:=none) (s':={ s with heap:=s.heap.push { cls:=.type "dict",data:=.dict #[] } }) R hk rfl rfl (size_none _) (fun x e=>by exact no_none e)
 have rho:(t.bind (kd,st.cnt kd) s.heap.objs.size none).ρ (kd,st.cnt kd) = some s.heap.objs.size:=by simp [Tie.bind]
 refine k _ _ _ S (Rel.bind R hk rfl rfl (size_none _) (fun x e=>by exact no_none e) ?_ (R.size_sys O) ⟨_,[],rho,?_,rfl⟩) ⟨_,rfl,rho⟩
 ·show ((s.heap.push _).get? _).isSome = true; rw [Heap.get?_push_size _ rfl]; rfl
 ·exact Heap.DictOf.new _
end
end Mine
end
section
set_option maxRecDepth 100000
namespace Mine
open PySem PySem.W PyProof.Rows
section
variable {G:Gd} {N:Names} {C:Calls} {d:Dp} {sc:Sc} {Γ:Gam} {A:Around} {t:Tie} {st st':MS} {s:Shared} {env:Env} {loc:Loc} {X Y Z:V} {v w:Value}
theorem Rel.hideGrow (R:Rel G t st s) {s':Shared} {P:Addr → Prop} {l₁:List Env} (np:∀ a,P a → s.heap.get? a = none) (hk:∀ b o,s.heap.get? b = some o → s'.heap.get? b = some o) (hl:∀ a,P a → (s'.heap.get? a).isSome = true) (hg:s'.gens = s.gens) (ho:s'.os = s.os) :
  Rel G (t.hideS P l₁) st s' where
 base b o e:=hk b o (R.base b o e)
 apart a q:=by
  rcases q with q | q | q
  ·exact R.apart a (.inl q)
  ·exact R.apart a (.inr q)
  ·cases z:G.h₀.get? a with
   | none=>rfl
   | some o=>have:=R.base a o z; rw [np a q] at this; exact no_none this
 live a q:=by
  have old:t.Avoid a → (s'.heap.get? a).isSome = true:=fun q=>by obtain ⟨o,e⟩:=Option.isSome_iff_exists.mp (R.live a q); rw [hk a o e]; rfl
  rcases q with q | q | q
  ·exact old (.inl q)
  ·exact old (.inr q)
  ·exact hl a q
 pv a q o:=by
  rcases q with q | q
  ·exact R.pv a q o
  ·have:=R.live a (.inl o); rw [np a q] at this; exact no_ft this
 injρ:=R.injρ
 injδ:=R.injδ
 two:=R.two
 objs l o e:=by
  have S:Step noX (t.hideS P l₁) (t.hideS P l₁) s s':=⟨.refl _,fun a o e _ _ _=>hk a o e,fun a o e _ _ _=>⟨o.slots,hk a o e⟩,fun _ o=>.inl o,fun a o e=>by rw [hk a o e]; rfl,hg,ho⟩
  exact (ObjOk.map (t:=t) (t':=t.hideS P l₁) (fun _ _ e=>e) (fun _ _ e=>e) (Tie.hid np) (fun _ _ _ e=>e) (R.objs l o e)).step S (fun _ x=>x.elim) fun a o _ e=>hk a o e
 cnt:=R.cnt
 sys:=R.sys
 wr:=R.wr
set_option genCtorIdx false in
structure Forget (P L:Addr → Prop) (t₁ t₂:Tie) (s₁ s₂:Shared):Prop where
 ρ:t₂.ρ = t₁.ρ
 δ:t₂.δ = t₁.δ
 pv:∀ a,t₂.pv a → t₁.pv a ∧ ¬ P a
 hP:∀ a,P a → t₁.pv a
 hL:∀ a,L a → t₁.pv a ∧ (s₂.heap.get? a).isSome = true
 keep:∀ b o,¬ P b → ¬ L b → s₁.heap.get? b = some o → s₂.heap.get? b = some o
 gens:s₂.gens = s₁.gens
 os:s₂.os = s₁.os
 wr:t₂.wr = t₁.wr
theorem Forget.own {P L:Addr → Prop} {t₁ t₂:Tie} {s₁ s₂:Shared} (F:Forget P L t₁ t₂ s₁ s₂) {a:Addr}:t₂.Own a ↔ t₁.Own a:=by
 unfold Tie.Own; rw [F.ρ,F.δ]
theorem Forget.avoid {P L:Addr → Prop} {t₁ t₂:Tie} {s₁ s₂:Shared} (F:Forget P L t₁ t₂ s₁ s₂) {a:Addr} (h:¬ t₁.Avoid a):¬ t₂.Avoid a:=fun q=>h (q.imp F.own.mp fun z=>(F.pv a z).1)
theorem Forget.val {P L:Addr → Prop} {t₁ t₂:Tie} {s₁ s₂:Shared} (F:Forget P L t₁ t₂ s₁ s₂) (a:Addr) (o:Obj) (na:¬ t₁.Avoid a) (ho:s₁.heap.get? a = some o):s₂.heap.get? a = some o ∧ ¬ t₂.Avoid a :=
 ⟨F.keep _ _ (fun q=>na (.inr (F.hP a q))) (fun q=>na (.inr (F.hL a q).1)) ho,F.avoid na⟩
theorem VRel.forget {P L:Addr → Prop} {t₁ t₂:Tie} {s₁ s₂:Shared} (F:Forget P L t₁ t₂ s₁ s₂) (x:V) {v:Value} (r:VRel t₁ s₁.heap x v):VRel t₂ s₂.heap x v:=VRel.map (fun _ _ e=>by rw [F.ρ]; exact e) F.val x r
theorem VRels.forget {P L:Addr → Prop} {t₁ t₂:Tie} {s₁ s₂:Shared} (F:Forget P L t₁ t₂ s₁ s₂) (l:List V) {vs:List Value} (r:VRels t₁ s₁.heap l vs):VRels t₂ s₂.heap l vs:=VRels.map (fun _ _ e=>by rw [F.ρ]; exact e) F.val l r
theorem Rel.forget {P L:Addr → Prop} {t₁ t₂:Tie} {s₁ s₂:Shared} (F:Forget P L t₁ t₂ s₁ s₂) (R:Rel G t₁ st s₁):Rel G t₂ st s₂:=by
 have nP:∀ {a},t₁.Own a → ¬ P a:=fun {a} o q=>R.pv a (F.hP a q) o
 have nL:∀ {a},t₁.Own a → ¬ L a:=fun {a} o q=>R.pv a (F.hL a q).1 o
 have up:∀ {a},t₂.Avoid a → t₁.Avoid a ∧ ¬ P a:=fun {a} q=>q.elim (fun q=>⟨.inl (F.own.mp q),nP (F.own.mp q)⟩) fun q=>⟨.inr (F.pv a q).1,(F.pv a q).2⟩
 refine ⟨fun b o e=>F.keep b o (fun q=>?_) (fun q=>?_) (R.base b o e),fun a q=>R.apart a (up q).1,fun a q=>?_,fun a q o=>R.pv a (F.pv a q).1 (F.own.mp o),?_,?_,?_,?_,?_,?_,F.wr.trans R.wr⟩
 ·rw [R.apart b (.inr (F.hP b q))] at e; exact no_none e
 ·rw [R.apart b (.inr (F.hL b q).1)] at e; exact no_none e
 ·by_cases ql:L a
  ·exact (F.hL a ql).2
  ·obtain ⟨o,e⟩:=Option.isSome_iff_exists.mp (R.live a (up q).1)
   rw [F.keep a o (up q).2 ql e]; rfl
 ·rw [F.ρ]; exact R.injρ
 ·rw [F.δ]; exact R.injδ
 ·rw [F.ρ,F.δ]; exact R.two
 ·intro l o e
  exact ObjOk.map (fun _ _ e=>by rw [F.ρ]; exact e) (fun _ _ e=>by rw [F.δ]; exact e) F.val (fun a ob q e=>F.keep a ob (nP ⟨l,q⟩) (nL ⟨l,q⟩) e) (R.objs l o e)
 ·rw [F.ρ,F.δ]; exact R.cnt
 ·rw [F.ρ]; exact R.sys
theorem Step.unhideS {P X L:Addr → Prop} {t₁:Tie} {s₀ s₁ s₂:Shared} {l:List Env} (hl:∀ e,e ∈ l → e ∈ t.st ∨ ∀ a,e.frame = some a → P a) (hl':∀ e,e ∈ t.st → e ∈ l) (hX:∀ a,X a → P a ∨ L a) (np:∀ a,P a → s.heap.get? a = none) (hk:∀ b o,s.heap.get? b = some o → s₀.heap.get? b = some o) (hg:s₀.gens = s.gens) (ho:s₀.os = s.os)
  (S:Step X (t.hideS P l) t₁ s₀ s₁) (F:Forget P L t₁ { t₁ with pv:=t.pv,st:=t.st } s₁ s₂):Step L t { t₁ with pv:=t.pv,st:=t.st } s s₂ where
 le:=⟨S.le.ρ,S.le.δ,rfl,S.le.wr,rfl⟩
 slots a o e n nl f:=by
  have nP:¬ P a:=fun q=>by rw [np a q] at e; exact no_none e
  obtain ⟨sl,e1⟩:=S.slots a o (hk a o e) n (fun q=>(hX a q).elim nP nl) ⟨.inl f.1,let ⟨e,h1,h2⟩:=f.2; ⟨e,hl' e h1,h2⟩⟩
  exact ⟨sl,F.keep a _ nP nl e1⟩
 keepW a o e n nl nf:=by
  have nP:¬ P a:=fun q=>by rw [np a q] at e; exact no_none e
  exact F.keep a o nP nl (S.keepW a o (hk a o e) n (fun q=>(hX a q).elim nP nl) fun q=>let ⟨e,h1,h2⟩:=q.2; nf ⟨q.1.elim id fun q=>(nP q).elim,e,(hl e h1).resolve_right fun z=>nP (z a h2),h2⟩)
 new a o:=by
  rcases S.new a o with q | q
  ·exact .inl q
  ·right
   cases z:s.heap.get? a with
   | none=>rfl
   | some ob=>rw [hk a ob z] at q; cases q
 live a o e:=by
  have nP:¬ P a:=fun q=>by rw [np a q] at e; exact no_none e
  by_cases ql:L a
  ·exact (F.hL a ql).2
  ·obtain ⟨o',e'⟩:=Option.isSome_iff_exists.mp (S.live a o (hk a o e))
   rw [F.keep a o' nP ql e']; rfl
 gens:=F.gens.trans (S.gens.trans hg)
 os:=F.os.trans (S.os.trans ho)
theorem Step.unhide {P X L:Addr → Prop} {t₁:Tie} {s₀ s₁ s₂:Shared} (hX:∀ a,X a → P a ∨ L a) (np:∀ a,P a → s.heap.get? a = none) (hk:∀ b o,s.heap.get? b = some o → s₀.heap.get? b = some o) (hg:s₀.gens = s.gens) (ho:s₀.os = s.os)
  (S:Step X (t.hide P) t₁ s₀ s₁) (F:Forget P L t₁ { t₁ with pv:=t.pv,st:=t.st } s₁ s₂):Step L t { t₁ with pv:=t.pv,st:=t.st } s s₂ :=
 Step.unhideS (l:=t.st) (fun _ h=>.inl h) (fun _ h=>h) hX np hk hg ho S F
theorem Step.priv {a:Addr} {h':Heap} {tk:Nat} {X:Addr → Prop} (hX:X a) (hl:(h'.get? a).isSome = true) (hs:Heap.SameBut a s.heap h'):Step X t t s { s with heap:=h',toks:=tk } :=
 ⟨.refl t,fun b o e _ nx _=>(hs.2 b fun (q:b = a)=>nx (q ▸ hX)).trans e,fun b o e _ nx _=>⟨o.slots,(hs.2 b fun (q:b = a)=>nx (q ▸ hX)).trans e⟩,fun _ o=>.inl o,fun b o e=>by
  by_cases q:b = a
  ·subst q; exact hl
  ·show (h'.get? b).isSome = true; rw [hs.2 b q,e]; rfl,rfl,rfl⟩
theorem Rel.priv (R:Rel G t st s) {a:Addr} {h':Heap} {tk:Nat} (hp:t.pv a) (hl:(h'.get? a).isSome = true) (hs:Heap.SameBut a s.heap h'):Rel G t st { s with heap:=h',toks:=tk }:=by
 have S:Step (· = a) t t s { s with heap:=h',toks:=tk }:=Step.priv rfl hl hs
 have hp':∀ b,b = a → t.pv b:=fun b z=>by rw [z]; exact hp
 refine ⟨fun b o e=>(hs.2 b fun (q:b = a)=>?_).trans (R.base b o e),R.apart,fun b q=>?_,R.pv,R.injρ,R.injδ,R.two,fun l o e=>(R.objs l o e).step S hp' fun b ob hb eb=>(hs.2 b fun (q:b = a)=>?_).trans eb,R.cnt,R.sys,R.wr⟩
 ·rw [q,R.apart a (.inr hp)] at e; exact no_none e
 ·by_cases z:b = a
  ·subst z; exact hl
  ·show (h'.get? b).isSome = true; rw [hs.2 b z]; exact R.live b q
 ·subst q; exact R.pv b hp ⟨l,hb⟩
noncomputable def Tie.adopt (t:Tie) (l:Lbl) (D:Addr) (pv':Addr → Prop):Tie:=⟨fun x=>if x = l then some D else t.ρ x,fun x=>if x = l then none else t.δ x,pv',t.wr,t.st⟩
theorem Rel.adopt (R:Rel G t st s) {D:Addr} {k:Nat} {o:MObj} {pv':Addr → Prop} (pD:t.pv D) (hpv:∀ a,t.pv a ↔ pv' a ∨ a = D) (nD:¬ pv' D) (hsys:D ≠ sysModules)
  (hO:(∀ (X:V) (v:Value),VRel t s.heap X v → VRel (t.adopt (k,st.cnt k) D pv') s.heap X v) → ObjOk G (t.adopt (k,st.cnt k) D pv') s.heap (k,st.cnt k) o) :
  Rel G (t.adopt (k,st.cnt k) D pv') (st.new k o) s ∧ (∀ l a,t.ρ l = some a → (t.adopt (k,st.cnt k) D pv').ρ l = some a) ∧
   (∀ a o,¬ t.Avoid a → s.heap.get? a = some o → s.heap.get? a = some o ∧ ¬ Tie.Avoid (t.adopt (k,st.cnt k) D pv') a):=by
 obtain ⟨c1,c2,c3⟩:=R.cnt k _ (Nat.le_refl _)
 have hρ:∀ l a,t.ρ l = some a → (t.adopt (k,st.cnt k) D pv').ρ l = some a:=fun l a e=>by
  show (if l = (k,st.cnt k) then some D else t.ρ l) = some a
  rw [if_neg (fun q=>by rw [q,c1] at e; exact no_none e)]; exact e
 have hδ:∀ l a,t.δ l = some a → (t.adopt (k,st.cnt k) D pv').δ l = some a:=fun l a e=>by
  show (if l = (k,st.cnt k) then none else t.δ l) = some a
  rw [if_neg (fun q=>by rw [q,c2] at e; exact no_none e)]; exact e
 have nr:∀ {l:Lbl} {b:Addr},(t.adopt (k,st.cnt k) D pv').ρ l = some b → (l = (k,st.cnt k) ∧ b = D) ∨ (l ≠ (k,st.cnt k) ∧ t.ρ l = some b):=fun {l b} e=>by
  change (if l = (k,st.cnt k) then some D else t.ρ l) = some b at e
  split at e
  ·rename_i q; cases e; exact .inl ⟨q,rfl⟩
  ·rename_i q; exact .inr ⟨q,e⟩
 have nd:∀ {l:Lbl} {b:Addr},(t.adopt (k,st.cnt k) D pv').δ l = some b → t.δ l = some b:=fun {l b} e=>by
  change (if l = (k,st.cnt k) then none else t.δ l) = some b at e
  split at e
  ·exact no_none e
  ·exact e
 have nO:=R.pv D pD
 have up:∀ a,Tie.Avoid (t.adopt (k,st.cnt k) D pv') a → t.Avoid a:=by
  rintro a (⟨l,e | e⟩ | e)
  ·rcases nr e with ⟨_,rfl⟩ | ⟨_,e⟩
   ·exact .inr pD
   ·exact .inl ⟨l,.inl e⟩
  ·exact .inl ⟨l,.inr (nd e)⟩
  ·exact .inr ((hpv a).2 (.inl e))
 have kp:∀ a o,¬ t.Avoid a → s.heap.get? a = some o → s.heap.get? a = some o ∧ ¬ Tie.Avoid (t.adopt (k,st.cnt k) D pv') a:=fun a o na e=>⟨e,fun q=>na (up a q)⟩
 refine ⟨⟨R.base,fun a q=>R.apart a (up a q),fun a q=>R.live a (up a q),?_,?_,?_,?_,?_,?_,fun l e=>?_,R.wr⟩,hρ,kp⟩
 ·rintro a q ⟨l,e | e⟩
  ·rcases nr e with ⟨_,rfl⟩ | ⟨_,e⟩
   ·exact nD q
   ·exact R.pv a ((hpv a).2 (.inl q)) ⟨l,.inl e⟩
  ·exact R.pv a ((hpv a).2 (.inl q)) ⟨l,.inr (nd e)⟩
 ·intro l l' b e e'
  rcases nr e with ⟨q1,z1⟩ | ⟨_,e1⟩ <;> rcases nr e' with ⟨q,z⟩ | ⟨_,e2⟩
  ·exact q1.trans q.symm
  ·exact (nO ⟨l',.inl (z1 ▸ e2)⟩).elim
  ·exact (nO ⟨l,.inl (z ▸ e1)⟩).elim
  ·exact R.injρ l l' b e1 e2
 ·exact fun l l' b e e'=>R.injδ l l' b (nd e) (nd e')
 ·intro l l' b e e'
  rcases nr e with ⟨_,z⟩ | ⟨_,e⟩
  ·exact nO ⟨l',.inr (z ▸ nd e')⟩
  ·exact R.two l l' b e (nd e')
 ·intro l o' e
  change (if l = (k,st.cnt k) then some o else st.heap l) = some o' at e
  split at e
  ·rename_i q; cases e; subst q
   exact hO fun X v r=>VRel.map hρ kp X r
  ·exact ObjOk.map (t:=t) (t':=t.adopt (k,st.cnt k) D pv') hρ hδ kp (fun _ _ _ e=>e) (R.objs l o' e)
 ·intro k' i e
  change (if k' = k then st.cnt k + 1 else st.cnt k') ≤ i at e
  have ne:(k',i) ≠ (k,st.cnt k):=fun q=>by cases q; rw [if_pos rfl] at e; lia
  have le:st.cnt k' ≤ i:=by
   by_cases q:k' = k
   ·subst q; rw [if_pos rfl] at e; lia
   ·rw [if_neg q] at e; exact e
  obtain ⟨d1,d2,d3⟩:=R.cnt k' i le
  exact ⟨(if_neg ne).trans d1,(if_neg ne).trans d2,(if_neg ne).trans d3⟩
 ·rcases nr e with ⟨_,z⟩ | ⟨_,z⟩
  ·exact hsys z.symm
  ·exact R.sys l z
theorem Step.own {X:Addr → Prop} {t':Tie} {s':Shared} (S:Step X t t' s s') {D:Addr} {l:Lbl} (hD:s.heap.get? D = none) (hl:t'.ρ l = none) (hl2:t'.δ l = none):Step X t (t'.adopt l D t'.pv) s s' where
 le:=⟨fun x a e=>by
   have e:=S.le.ρ x a e
   show (if x = l then some D else t'.ρ x) = some a
   rw [if_neg (fun q=>by rw [q,hl] at e; exact no_none e)]; exact e,fun x a e=>by
   have e:=S.le.δ x a e
   show (if x = l then none else t'.δ x) = some a
   rw [if_neg (fun q=>by rw [q,hl2] at e; exact no_none e)]; exact e,S.le.pv,S.le.wr,S.le.st⟩
 keepW:=S.keepW
 slots:=S.slots
 new a:=by
  rintro ⟨x,e | e⟩
  ·change (if x = l then some D else t'.ρ x) = some a at e
   split at e
   ·cases e; exact .inr hD
   ·exact S.new a ⟨x,.inl e⟩
  ·change (if x = l then none else t'.δ x) = some a at e
   split at e
   ·exact no_none e
   ·exact S.new a ⟨x,.inr e⟩
 live:=S.live
 gens:=S.gens
 os:=S.os
end
end Mine
end
section
set_option maxRecDepth 100000
namespace Mine
open PySem PySem.W PyProof.Rows
section
variable {G:Gd} {N:Names} {C:Calls} {d:Dp} {sc:Sc} {Γ:Gam} {A:Around} {t:Tie} {st st':MS} {s:Shared} {env:Env} {loc:Loc} {X Y Z:V} {v w:Value}
noncomputable def ItQ (st₀:MS) (t:Tie) (s:Shared) (I:Addr) (src:V) (i:Nat):Prop :=
 ∃ (k:Bool) (l:List V) (a:Addr),seqOf st₀ src = some (k,l) ∧ VRel t s.heap src (.ref a) ∧ (if k = true then s.heap.IsListIter I a i else s.heap.IsTupleIter I a i)
noncomputable def ItD (G:Gd) (st₀:MS) (t:Tie) (s:Shared) (I:Addr) (src:V) (i:Nat):Prop :=
 ∃ (r:Lbl) (dd:List (V × V)) (a:Addr) (kvs:List (PySem.Str × Value)) (ep:Nat),src = .ref r ∧ dictAt src st₀ = some (r,dd) ∧ t.ρ r = some a ∧ (∀ j:Nat,∀ x,(dd.map (·.1))[j]? = some x → ∃ y v,x = .str y ∧ kvs[j]? = some (toStr y,v)) ∧ kvs.length = dd.length ∧ a ≠ I ∧ st₀.wr ≤ t.wr ∧ s.heap.IsKeyIter I a i kvs.length ep ∧
  (t.wr = st₀.wr → s.heap.DictAt (strKind G.prog G.w) a kvs ep)
noncomputable def ItS (s:Shared) (I:Addr) (src:V) (i:Nat):Prop :=
 ∃ (x:List Nat) (tk:Tok),src = .str x ∧ s.heap.IsStrIter I "str_ascii_iterator" (toStr x) tk i
noncomputable def ItOk (G:Gd) (st₀:MS) (t:Tie) (s:Shared) (I:Addr) (range:Bool) (src:V) (i:Nat):Prop :=
 match range with
 | true=>∃ n:Int,src = .int n ∧ IsRangeIter s.heap I i ((n.toNat:Int) - i) 1
 | false=>ItQ st₀ t s I src i ∨ ItD G st₀ t s I src i ∨ ItS s I src i
theorem ItOk.step {st₀:MS} {I:Addr} {range:Bool} {src:V} {i:Nat} {X:Addr → Prop} {t':Tie} {s':Shared} (h:ItOk G st₀ t s I range src i) (S:Step X t t' s s') (xp:∀ a,X a → t.pv a) (hp:∀ a,t.pv a → ¬ t.Own a) (pI:t.pv I) (hX:¬ X I) (nF:¬ t.Fr I):ItOk G st₀ t' s' I range src i:=by
 have hI:=hp I pI
 cases range with
 | true =>
  obtain ⟨n,e,h⟩:=h
  exact ⟨n,e,S.keep _ _ h hI hX nF⟩
 | false =>
  rcases h with ⟨k,l,a,e,r,h⟩ | ⟨r,dd,a,kvs,ep,e1,e2,ea,e3,e4,e5,e6,⟨o,h1,h2⟩,e8⟩ | ⟨x,tk,e1,o,h1,h2⟩
  ·refine .inl ⟨k,l,a,e,VRel.step S xp _ r,?_⟩
   cases k with
   | true =>
    obtain ⟨o,h1,h2⟩:=(h:s.heap.IsListIter I a i)
    exact (⟨o,S.keep _ _ h1 hI hX nF,h2⟩:s'.heap.IsListIter I a i)
   | false =>
    obtain ⟨o,h1,h2⟩:=(h:s.heap.IsTupleIter I a i)
    exact (⟨o,S.keep _ _ h1 hI hX nF,h2⟩:s'.heap.IsTupleIter I a i)
  ·refine .inr (.inl ⟨r,dd,a,kvs,ep,e1,e2,S.le.ρ _ _ ea,e3,e4,e5,Nat.le_trans e6 S.le.wr,⟨o,S.keep _ _ h1 hI hX nF,h2⟩,fun q=>?_⟩)
   have hw:t'.wr = t.wr ∧ t.wr = st₀.wr:=by have:=S.le.wr; lia
   obtain ⟨od,es,q1,q2⟩:=e8 hw.2
   exact ⟨od,es,S.keepW _ _ q1 (fun _=>hw.1) (fun hx=>hp a (xp a hx) ⟨r,.inl ea⟩) (fun f=>hp a f.1 ⟨r,.inl ea⟩),q2⟩
  ·exact .inr (.inr ⟨x,tk,e1,o,S.keep _ _ h1 hI hX nF,h2⟩)
theorem seqOf_stays {st₀ st:MS} {src:V} (h:stays st₀ st false src = true):seqOf st src = seqOf st₀ src:=by
 cases src with
 | ref r =>
  have h:st₀.heap r = st.heap r:=of_decide_eq_true (Bool.and_eq_true_iff.1 h).1
  show (match st.heap r with | some (.list l)=>some (true,l) | _=>none) = (match st₀.heap r with | some (.list l)=>some (true,l) | _=>none)
  rw [h]
 | _=>rfl
theorem dictAt_seq {st:MS} {src:V} {p:Bool × List V} (h:seqOf st src = some p):dictAt src st = none:=by
 cases src with
 | ref r =>
  show (match st.heap r with | some (.dict l)=>some (r,l) | _=>none) = none
  have h:(match st.heap r with | some (.list l)=>some (true,l) | _=>none) = some p:=h
  cases e:st.heap r with
  | none=>rfl
  | some o=>rw [e] at h; cases o <;> first | rfl | exact no_none h
 | _=>rfl
theorem DRel.keyAt {h:Heap}:∀ {dd:List (V × V)} {kvs:List (PySem.Str × Value)},DRel t h dd kvs → ∀ (j:Nat) (x:V),(dd.map (·.1))[j]? = some x → ∃ y v,x = .str y ∧ kvs[j]? = some (toStr y,v)
 | [],_,_,j,x,e=>by exact no_none e
 | (k,u) :: r,_,⟨z,y,rest,e1,e2,_,_⟩,0,x,e=>by subst e1 e2; cases e; exact ⟨z,y,rfl,rfl⟩
 | (k,u) :: r,_,⟨z,y,rest,e1,e2,_,e4⟩,j + 1,x,e=>by subst e2; exact DRel.keyAt e4 j x e
theorem items_seq {st:MS} {src:V} {p:Bool × List V} (h:seqOf st src = some p):itemsOf st false src = some p.2:=by
 cases src with
 | str=>exact no_none h
 | ref r =>
  show (match dictAt (.ref r) st with | some p=>some (p.2.map fun q:V × V=>q.1) | none=>(seqOf st (.ref r)).map fun q:Bool × List V=>q.2) = _
  rw [dictAt_seq h,h]; rfl
 | _=>cases h <;> rfl
theorem items_dct {st:MS} {r:Lbl} {p:Lbl × List (V × V)} (h:dictAt (.ref r) st = some p):itemsOf st false (.ref r) = some (p.2.map (·.1)):=by
 show (match dictAt (.ref r) st with | some p=>some (p.2.map fun q:V × V=>q.1) | none=>(seqOf st (.ref r)).map fun q:Bool × List V=>q.2) = _
 rw [h]
theorem stays_wr {st₀ st:MS} {r:Lbl} {p:Lbl × List (V × V)} (h:stays st₀ st false (.ref r) = true) (hd:dictAt (.ref r) st₀ = some p):st₀.wr = st.wr:=by
 have h:((dictAt (.ref r) st₀).isNone || decide (st₀.wr = st.wr)) = true:=(Bool.and_eq_true_iff.1 h).2
 rw [hd] at h
 exact of_decide_eq_true h
theorem items_str {st:MS} {x:List Nat} {xs:List V} (h:itemsOf st false (.str x) = some xs):xs = x.map fun c=>V.str [c]:=by
 have h:(if x.all (fun c=>decide (c < 128)) = true then some (x.map fun c=>V.str [c]) else none) = some xs:=h
 split at h <;> cases h; rfl
theorem items_asc {st:MS} {x:List Nat} {xs:List V} (h:itemsOf st false (.str x) = some xs):(toStr x).cps.all (· < 128) = true:=by
 have h:(if x.all (fun c=>decide (c < 128)) = true then some (x.map fun c=>V.str [c]) else none) = some xs:=h
 split at h
 ·rename_i hh; rw [← hh]; simp [toStr]
 ·exact no_none h
theorem next_seq {st₀:MS} {I:Addr} {src:V} {i:Nat} {xs:List V} {x:V} {Q:Option Value → Shared → Prop} {E:Value → Shared → Prop} (R:Rel G t st s) (hI:t.pv I) (hx:itemsOf st₀ false src = some xs) (hs:stays st₀ st false src = true) (h:ItQ st₀ t s I src i) (hi:xs[i]? = some x)
  (q:∀ v h' tk,Step (· = I) t t s { s with heap:=h',toks:=tk } → Rel G t st { s with heap:=h',toks:=tk } → VRel t h' x v → ItOk G st₀ t { s with heap:=h',toks:=tk } I false src (i + 1) → Q (some v) { s with heap:=h',toks:=tk }) :
  wpAny G.M A (pyNext (.ref I)) Q E s:=by
 obtain ⟨k,l,a,e,r,h⟩:=h
 rw [items_seq e] at hx
 have hx:l = xs:=Option.some.inj hx
 subst hx
 have e':seqOf st src = some (k,l):=by rw [seqOf_stays hs,e]
 obtain ⟨a',vs,ea,io,rr,sz⟩:=seqOf_real R r e'
 cases ea
 obtain ⟨y,y1,y2⟩:=VRels.get rr hi
 rw [Array.getElem?_toList] at y1
 have xp:∀ b,b = I → t.pv b:=fun b z=>by rw [z]; exact hI
 cases k with
 | true =>
  have h:s.heap.IsListIter I a i:=h
  have io:PL s.heap a vs:=io
  refine wpAny_pyNext_list_item h io.isList y1 fun h' hit hs'=>?_
  have hl:(h'.get? I).isSome = true:=by obtain ⟨o,ho,_⟩:=hit; rw [ho]; rfl
  have S:Step (· = I) t t s { s with heap:=h',toks:=s.toks }:=Step.priv rfl hl hs'
  exact q _ h' s.toks S (R.priv hI hl hs') (VRel.step S xp _ y2) (.inl ⟨true,l,a,e,VRel.step S xp _ r,hit⟩)
 | false =>
  have h:s.heap.IsTupleIter I a i:=h
  have io:PT s.heap a vs:=io
  refine wpAny_pyNext_tuple_item h io.isTuple y1 fun h' hit hs'=>?_
  have hl:(h'.get? I).isSome = true:=by obtain ⟨o,ho,_⟩:=hit; rw [ho]; rfl
  have S:Step (· = I) t t s { s with heap:=h',toks:=s.toks }:=Step.priv rfl hl hs'
  exact q _ h' s.toks S (R.priv hI hl hs') (VRel.step S xp _ y2) (.inl ⟨false,l,a,e,VRel.step S xp _ r,hit⟩)
theorem next_dict {st₀:MS} {I:Addr} {src:V} {i:Nat} {xs:List V} {x:V} {Q:Option Value → Shared → Prop} {E:Value → Shared → Prop} (R:Rel G t st s) (hI:t.pv I) (hx:itemsOf st₀ false src = some xs) (hs:stays st₀ st false src = true) (h:ItD G st₀ t s I src i) (hi:xs[i]? = some x)
  (q:∀ v h' tk,Step (· = I) t t s { s with heap:=h',toks:=tk } → Rel G t st { s with heap:=h',toks:=tk } → VRel t h' x v → ItOk G st₀ t { s with heap:=h',toks:=tk } I false src (i + 1) → Q (some v) { s with heap:=h',toks:=tk }) :
  wpAny G.M A (pyNext (.ref I)) Q E s:=by
 obtain ⟨r,dd,a,kvs,ep,rfl,e2,ea,e3,e4,e5,e6,e7,e8⟩:=h
 have hw:t.wr = st₀.wr:=R.wr.trans (stays_wr hs e2).symm
 rw [items_dct e2] at hx
 cases hx
 obtain ⟨y,v,rfl,hy⟩:=e3 i x hi
 have hd:=e8 hw
 refine wpAny_pyNext_dict_item e7 hd hy fun key h' hk hit hs'=>?_
 have hl:(h'.get? I).isSome = true:=by obtain ⟨o,ho,_⟩:=hit; rw [ho]; rfl
 have S:Step (· = I) t t s { s with heap:=h',toks:=s.toks }:=Step.priv rfl hl hs'
 obtain ⟨tk,rfl⟩:=Value.isStrOf_shape hk
 refine q _ h' s.toks S (R.priv hI hl hs') ⟨tk,rfl⟩ (.inr (.inl ⟨r,dd,a,kvs,ep,rfl,e2,ea,e3,e4,e5,e6,hit,fun _=>?_⟩))
 obtain ⟨od,es,q1,q2⟩:=hd
 exact ⟨od,es,(hs'.2 a e5).trans q1,q2⟩
theorem next_str {st₀:MS} {I:Addr} {src:V} {i:Nat} {xs:List V} {x:V} {Q:Option Value → Shared → Prop} {E:Value → Shared → Prop} (R:Rel G t st s) (hI:t.pv I) (hx:itemsOf st₀ false src = some xs) (h:ItS s I src i) (hi:xs[i]? = some x)
  (q:∀ v h' tk,Step (· = I) t t s { s with heap:=h',toks:=tk } → Rel G t st { s with heap:=h',toks:=tk } → VRel t h' x v → ItOk G st₀ t { s with heap:=h',toks:=tk } I false src (i + 1) → Q (some v) { s with heap:=h',toks:=tk }) :
  wpAny G.M A (pyNext (.ref I)) Q E s:=by
 obtain ⟨y,tk,rfl,h⟩:=h
 rw [items_str hx,List.getElem?_map] at hi
 obtain ⟨c,hc,rfl⟩:=Option.map_eq_some_iff.1 hi
 refine wpAny_pyNext_ascii_item h (by rw [← hc]; exact List.getElem?_toArray) fun h' hit hs'=>?_
 have hl:(h'.get? I).isSome = true:=by obtain ⟨o,ho,_⟩:=hit; rw [ho]; rfl
 exact q _ h' _ (Step.priv rfl hl hs') (R.priv hI hl hs') ⟨_,rfl⟩ (.inr (.inr ⟨y,tk,rfl,hit⟩))
theorem it_next {st₀:MS} {I:Addr} {range:Bool} {src:V} {i:Nat} {xs:List V} {x:V} {Q:Option Value → Shared → Prop} {E:Value → Shared → Prop} (R:Rel G t st s) (hI:t.pv I) (hx:itemsOf st₀ range src = some xs) (hs:stays st₀ st range src = true) (h:ItOk G st₀ t s I range src i) (hi:xs[i]? = some x)
  (q:∀ v h' tk,Step (· = I) t t s { s with heap:=h',toks:=tk } → Rel G t st { s with heap:=h',toks:=tk } → VRel t h' x v → ItOk G st₀ t { s with heap:=h',toks:=tk } I range src (i + 1) → Q (some v) { s with heap:=h',toks:=tk }) :
  wpAny G.M A (pyNext (.ref I)) Q E s:=by
 cases range with
 | true =>
  obtain ⟨n,rfl,h⟩:=h
  simp only [itemsOf] at hx
  split at hx
  ·cases hx
   have hlt:i < n.toNat:=by
    rw [List.getElem?_map] at hi
    obtain ⟨j,hj,_⟩:=Option.map_eq_some_iff.mp hi
    rw [List.getElem?_eq_some_iff] at hj
    simpa using hj.1
   have hxi:x = .int (i:Int):=by
    rw [List.getElem?_map,List.getElem?_range hlt] at hi
    cases hi; rfl
   subst hxi
   refine wpAny_pyNext_range_item h (by lia) fun h' hit hs'=>?_
   have hl:(h'.get? I).isSome = true:=by rw [hit]; rfl
   refine q _ h' _ (Step.priv rfl hl hs') (R.priv hI hl hs') ⟨_,rfl⟩ ⟨n,rfl,?_⟩
   have e1:((i:Int) + 1) = ((i + 1:Nat):Int):=by lia
   have e2:((n.toNat:Int) - i - 1) = ((n.toNat:Int) - ((i + 1:Nat):Int)):=by lia
   rw [← e2,← e1]; exact hit
  ·exact no_none hx
 | false =>
  rcases h with h | h | h
  ·exact next_seq R hI hx hs h hi q
  ·exact next_dict R hI hx hs h hi q
  ·exact next_str R hI hx h hi q
theorem it_end {st₀:MS} {I:Addr} {range:Bool} {src:V} {xs:List V} {Q:Option Value → Shared → Prop} {E:Value → Shared → Prop} (R:Rel G t st s) (hA:A.handled = none) (hx:itemsOf st₀ range src = some xs) (hs:stays st₀ st range src = true) (h:ItOk G st₀ t s I range src xs.length)
  (q:∀ h' tk,Heap.ExtBut I s.heap h' → Q none { s with heap:=h',toks:=tk }):wpAny G.M A (pyNext (.ref I)) Q E s:=by
 cases range with
 | true =>
  obtain ⟨n,rfl,h⟩:=h
  simp only [itemsOf] at hx
  split at hx
  ·cases hx
   rw [List.length_map,List.length_range] at h
   exact wpAny_pyNext_range_end hA h (by lia) fun h'=>q h' s.toks
  ·exact no_none hx
 | false =>
  rcases h with ⟨k,l,a,e,r,h⟩ | ⟨r,dd,a,kvs,ep,rfl,e2,ea,e3,e4,e5,e6,e7,e8⟩ | ⟨x,tk,rfl,h⟩
  ·rw [items_seq e] at hx
   have hx:l = xs:=Option.some.inj hx
   subst hx
   have e':seqOf st src = some (k,l):=by rw [seqOf_stays hs,e]
   obtain ⟨a',vs,ea,io,rr,sz⟩:=seqOf_real R r e'
   cases ea
   have hn:vs[l.length]? = none:=by rw [Array.getElem?_eq_none]; rw [size_of rr]; exact Nat.le_refl _
   cases k with
   | true=>exact wpAny_pyNext_list_end hA (h:s.heap.IsListIter I a _) (show PL s.heap a vs from io).isList hn fun h'=>q h' s.toks
   | false=>exact wpAny_pyNext_tuple_end hA (h:s.heap.IsTupleIter I a _) (show PT s.heap a vs from io).isTuple hn fun h'=>q h' s.toks
  ·have hw:t.wr = st₀.wr:=R.wr.trans (stays_wr hs e2).symm
   rw [items_dct e2] at hx
   cases hx
   exact wpAny_pyNext_dict_end hA e7 (e8 hw) (by rw [List.length_map,← e4]; exact List.getElem?_eq_none (Nat.le_refl _)) fun h'=>q h' s.toks
  ·exact wpAny_pyNext_ascii_end hA h (by rw [items_str hx,List.length_map]; exact Array.getElem?_eq_none (by simp [toStr])) fun h'=>q h' s.toks
theorem it_self {st₀:MS} {I:Addr} {range:Bool} {src:V} {i:Nat} {Q:Value → Shared → Prop} {E:Value → Shared → Prop} (R:Rel G t st₀ s) (hA:A.handled = none) (h:ItOk G st₀ t s I range src i) (q:Q (.ref I) s):wpAny G.M A (pyIter (.ref I)) Q E s:=by
 cases range with
 | true =>
  obtain ⟨n,rfl,h⟩:=h
  refine (Walks.range hA I 0 1 n.toNat).self i s Q E ?_ q
  have e1:(0:Int) + (i:Int) * 1 = i:=by lia
  rw [e1]; exact h
 | false =>
  rcases h with ⟨k,l,a,e,r,h⟩ | ⟨r,dd,a,kvs,ep,rfl,e2,ea,e3,e4,e5,e6,e7,e8⟩ | ⟨x,tk,rfl,h⟩
  ·obtain ⟨a',vs,ea,io,rr,sz⟩:=seqOf_real R r e
   cases ea
   cases k with
   | true =>
    have h:s.heap.IsListIter I a i:=h
    have io:PL s.heap a vs:=io
    have hne:a ≠ I:=fun z=>by
     obtain ⟨o,h1,h2,_⟩:=h
     obtain ⟨n,h3⟩:=io
     rw [z,h1] at h3; cases h3; exact absurd (show Value.type "list" = Value.type "list_iterator" from h2) (by decide)
    exact (Walks.list hA I a hne vs).self i s Q E ⟨h,io.isList⟩ q
   | false =>
    have h:s.heap.IsTupleIter I a i:=h
    have io:PT s.heap a vs:=io
    have hne:a ≠ I:=fun z=>by
     obtain ⟨o,h1,h2,_⟩:=h
     obtain ⟨n,h3⟩:=io
     rw [z,h1] at h3; cases h3; exact absurd (show Value.type "tuple" = Value.type "tuple_iterator" from h2) (by decide)
    exact (Walks.tuple hA I a hne vs).self i s Q E ⟨h,io.isTuple⟩ q
  ·exact wpAny_pyIter_keyiter e7 q
  ·exact wpAny_pyIter_striter_ascii h q
inductive IterAst (sc:Sc):Bool → PySem.Expr → PySem.Expr → Prop
 | plain (j:PySem.Expr):IterAst sc false j j
 | range {rp rpos:Pos} {j:PySem.Expr} (hg:glob sc "range" = true) (hj:isStarred j = false):IterAst sc true (.Call (.Name "range" rp) [j] [] rpos) j
theorem iter_go (O:G.Ok N) {range:Bool} {it:E} {iast j:PySem.Expr} (ha:IterAst sc range iast j) (hj:SimE G C d sc Γ it j) {src:V} {s1:MS} {xs:List V} (hA:AOk d A) (hsc:env.scope.names = sc) (F:FrOk G A t env Γ loc s) (R:Rel G t st s)
  (e1:ev G.P C it loc st = .ok src s1) (hx:itemsOf s1 range src = some xs) {K:Value → Shared → Prop} {E':Value → Shared → Prop}
  (h:∀ t1 σ1 σ2 I,Step noX t t1 s σ1 → Rel G t1 s1 σ1 → (∀ b o,σ1.heap.get? b = some o → σ2.heap.get? b = some o) → σ1.heap.get? I = none → (σ2.heap.get? I).isSome = true → σ2.gens = σ1.gens → σ2.os = σ1.os →
   (∀ (t':Tie) (s':Shared),(∀ a,VRel t1 σ1.heap src (.ref a) → VRel t' s'.heap src (.ref a)) → t'.wr = t1.wr → (∀ b o,σ2.heap.get? b = some o → s'.heap.get? b = some o) → ItOk G s1 t' s' I range src 0) → K (.ref I) σ2) :
  wpAny G.M A (eval iast env) (fun xv s'=>wpAny G.M A (pyIter xv) K E' s') E' s:=by
 cases ha with
 | plain j =>
  refine hj t st s env loc _ _ A hA hsc F R e1 _ _ fun v t1 σ1 S1 R1 r1=>?_
  cases hq:seqOf s1 src with
  | some kl =>
   obtain ⟨k,l⟩:=kl
   obtain ⟨a,vs,rfl,io,rr,sz⟩:=seqOf_real R1 r1 hq
   cases k with
   | true =>
    have io:PL σ1.heap a vs:=io
    refine wpAny_pyIter_list io.isList ?_
    refine h t1 σ1 _ _ S1 R1 (fun b o e=>Heap.get?_push_of_some _ e) (size_none _) (by show (Heap.get? _ _).isSome = true; rw [Heap.get?_push_size _ rfl]; rfl) rfl rfl fun t' s' hv _ hs'=>.inl ⟨true,l,a,hq,hv a r1,?_⟩
    exact (⟨_,hs' _ _ (Heap.get?_push_size _ rfl),rfl,rfl⟩:s'.heap.IsListIter _ a 0)
   | false =>
    have io:PT σ1.heap a vs:=io
    refine wpAny_pyIter_tuple io.isTuple ?_
    refine h t1 σ1 _ _ S1 R1 (fun b o e=>Heap.get?_push_of_some _ e) (size_none _) (by show (Heap.get? _ _).isSome = true; rw [Heap.get?_push_size _ rfl]; rfl) rfl rfl fun t' s' hv _ hs'=>.inl ⟨false,l,a,hq,hv a r1,?_⟩
    exact (⟨_,hs' _ _ (Heap.get?_push_size _ rfl),rfl,rfl⟩:s'.heap.IsTupleIter _ a 0)
  | none =>
   cases src with
   | str x =>
    obtain ⟨k,rfl⟩:=r1
    refine wpAny_pyIter_ascii (items_asc hx) ?_
    exact h t1 σ1 _ _ S1 R1 (fun b o e=>Heap.get?_push_of_some _ e) (size_none _) (by show (Heap.get? _ _).isSome = true; rw [Heap.get?_push_size _ rfl]; rfl) rfl rfl fun t' s' hv _ hs'=>.inr (.inr ⟨x,k,rfl,_,hs' _ _ (Heap.get?_push_size _ rfl),rfl,rfl⟩)
   | ref r =>
    cases hdd:dictAt (.ref r) s1 with
    | none =>
     have hx:(match dictAt (.ref r) s1 with | some p=>some (p.2.map fun q:V × V=>q.1) | none=>(seqOf s1 (.ref r)).map fun q:Bool × List V=>q.2) = some xs:=hx
     rw [hdd,hq] at hx; exact no_none hx
    | some p =>
     obtain ⟨a,kvs,rfl,h1,h2,h3,h4⟩:=dictAt_real R1 r1 hdd
     obtain ⟨ep,hd⟩:=h2.dictAt
     have hr:p.1 = r:=by
      have hdd:(match s1.heap r with | some (.dict l)=>some (r,l) | _=>none) = some p:=hdd
      cases hz:s1.heap r with
      | none=>rw [hz] at hdd; exact no_none hdd
      | some o=>rw [hz] at hdd; cases o <;> cases hdd; rfl
     obtain ⟨p1,p2⟩:=p
     cases hr
     refine wpAny_pyIter_dict (beq_eq_false_iff_ne.2 fun z=>R1.sys p1 (z ▸ h1)) hd ?_
     refine h t1 σ1 _ _ S1 R1 (fun b o e=>Heap.get?_push_of_some _ e) (size_none _) (by show (Heap.get? _ _).isSome = true; rw [Heap.get?_push_size _ rfl]; rfl) rfl rfl fun t' s' hv hw hs'=>.inr (.inl ⟨p1,p2,a,kvs,ep,rfl,hdd,?_,fun j x hj=>?_,h3.length,?_,?_,⟨_,hs' _ _ (Heap.get?_push_size _ rfl),rfl,rfl⟩,fun _=>?_⟩)
     ·obtain ⟨a',q1,q2⟩:=hv a ⟨a,rfl,h1⟩
      cases q1; exact q2
     ·exact h3.keyAt j x hj
     ·exact Nat.ne_of_lt hd.lt_size
     ·rw [hw]; exact Nat.le_of_eq R1.wr.symm
     ·exact hd.keep fun b o e=>hs' b o (Heap.get?_push_of_some _ e)
   | tup=>cases hq
   | lst=>cases hq
   | _=>exact no_none hx
 | @range rp rpos j hg hjs =>
  simp only [itemsOf] at hx
  split at hx
  ·rename_i n
   split at hx
   ·rename_i hn
    have e1':evL G.P C [it] loc st = .ok [.int n] s1:=by simp [evL_nil,evL_cons,e1,Res.bind]
    refine wpAny_Call_ofName (built_glob (v:=.type "range") O F R hsc hg (by decide) (by decide +kernel) ?_)
    refine with_go O (keeps_t _) (l:=[it]) (m:=[j]) (by simp [plainArgs,hjs]) rfl (sim_es_cons hjs hj sim_es_nil) hA hsc F R e1' fun vs t1 σ1 S1 R1 r1=>?_
    obtain ⟨v,_,rfl,⟨k,rfl⟩,rfl⟩:=r1
    have hlo:-(2 ^ 62:Int) ≤ n:=by lia
    have hhi:n < (2 ^ 62:Int):=by have:=hn.2; unfold sizeMax at this; lia
    refine call_range_1 (wpAny_pyIter_range (IsRange.new ..) (small_one (by decide) (by decide) hlo hhi) ?_)
    have hsz:Builtin.Range.rangeSize 0 n 1 = (n.toNat:Int):=by rw [rangeSize_one]; split <;> lia
    refine h t1 σ1 _ _ S1 R1 (fun b o e=>Heap.get?_push_of_some _ (Heap.get?_push_of_some _ e)) (by rw [Heap.size_push]; exact size_none1 _) (by show (Heap.get? _ _).isSome = true; rw [Heap.get?_push_size _ rfl]; rfl) rfl rfl fun t' s' hv _ hs'=>⟨n,rfl,hs' _ _ ?_⟩
    rw [hsz]
    have e2:((n.toNat:Int) - ((0:Nat):Int)) = (n.toNat:Int):=by lia
    rw [e2]
    exact Heap.get?_push_size _ rfl
   ·exact no_none hx
  ·exact no_none hx
end
end Mine
end
section
set_option maxRecDepth 100000
namespace Mine
open PySem PySem.W PyProof.Rows
section
variable {G:Gd} {N:Names} {C:Calls} {d:Dp} {sc:Sc} {Γ:Gam} {A:Around} {t:Tie} {st st':MS} {s:Shared} {env:Env} {loc:Loc} {X Y Z:V} {v w:Value}
noncomputable def clo (env:Env):Sc → List (PySem.Str × Addr) → List (PySem.Str × Addr)
 | [],acc=>acc
 | x :: r,acc=>clo env r (if x.2 == .free then (match env.cells.lookup x.1 with | some c=>(x.1,c) :: acc | none=>acc) else acc)
theorem clo_go (env:Env):∀ (names:Sc) (acc:List (PySem.Str × Addr)),(∀ x ∈ names,x.2 = .free → (env.cells.lookup x.1).isSome = true) →
  (forIn names acc fun (x:PySem.Str × NameKind) (cs:List (PySem.Str × Addr))=>(if x.2 == .free then do let c ← cellOf env x.1; pure (ForInStep.yield ((x.1,c) :: cs)) else pure (ForInStep.yield cs):Sem _)) = pure (clo env names acc)
 | [],_,_=>rfl
 | x :: r,acc,h=>by
  rw [List.forIn_cons]
  have ih:=fun acc=>clo_go env r acc fun y hy=>h y (.tail _ hy)
  by_cases q:(x.2 == .free) = true
  ·obtain ⟨c,hc⟩:=Option.isSome_iff_exists.mp (h x (.head _) (by simpa using q))
   simp only [q,if_true,cellOf,hc,clo]
   exact ih _
  ·simp only [q,if_false,clo]
   exact ih _
theorem closure_eq {scope:Scope} (h:∀ x ∈ scope.names,x.2 = .free → (env.cells.lookup x.1).isSome = true):closureFor scope env = pure (clo env scope.names []):=by
 have e:=clo_go env scope.names [] h
 exact (congrArg (· >>= fun r=>pure r) e:_)
theorem clo_mem:∀ {names:Sc} {acc:List (PySem.Str × Addr)} {n:PySem.Str} {c:Addr},(n,c) ∈ clo env names acc → (n,c) ∈ acc ∨ ((n,.free) ∈ names ∧ env.cells.lookup n = some c)
 | [],_,_,_,h=>.inl h
 | x :: r,acc,n,c,h=>by
  simp only [clo] at h
  rcases clo_mem h with h | h
  ·split at h
   ·rename_i q
    split at h
    ·rename_i c' hc
     rcases List.mem_cons.mp h with e | h
     ·cases e
      refine .inr ⟨?_,hc⟩
      have:x.2 = .free:=by simpa using q
      rw [← this]; exact .head _
     ·exact .inl h
    ·exact .inl h
   ·exact .inl h
  ·exact .inr ⟨.tail _ h.1,h.2⟩
theorem clo_look:∀ {names:Sc} {acc:List (PySem.Str × Addr)} {n:PySem.Str},(∀ c,(n,c) ∈ acc → env.cells.lookup n = some c) → (n,.free) ∈ names ∨ acc.lookup n = env.cells.lookup n → (clo env names acc).lookup n = env.cells.lookup n
 | [],_,_,_,h=>h.resolve_left (fun z=>by cases z)
 | x :: r,acc,n,ha,h=>by
  simp only [clo]
  have hacc':∀ c,(n,c) ∈ (if (x.2 == .free) = true then (match env.cells.lookup x.1 with | some c=>(x.1,c) :: acc | none=>acc) else acc) → env.cells.lookup n = some c:=by
   intro c hc
   split at hc
   ·split at hc
    ·rename_i c' hc'
     rcases List.mem_cons.mp hc with e | hc
     ·cases e; exact hc'
     ·exact ha c hc
    ·exact ha c hc
   ·exact ha c hc
  refine clo_look hacc' ?_
  by_cases q:(n,.free) ∈ r
  ·exact .inl q
  ·right
   by_cases z:x.1 = n
   ·by_cases z2:x.2 = .free
    ·rw [if_pos (by simpa using z2),z]
     cases hc:env.cells.lookup n with
     | some c=>simp [List.lookup_cons]
     | none =>
      dsimp only
      cases hl:acc.lookup n with
      | none=>rfl
      | some c=>have:=ha c (mem_of_lookup hl); rw [hc] at this; exact no_none this
    ·rw [if_neg (by simpa using z2)]
     refine h.resolve_left fun hm=>?_
     rcases List.mem_cons.mp hm with e | hm
     ·exact z2 (by rw [← e])
     ·exact q hm
   ·have hl:acc.lookup n = env.cells.lookup n:=h.resolve_left fun hm=>by
     rcases List.mem_cons.mp hm with e | hm
     ·exact z (by rw [← e])
     ·exact q hm
    have hb:(n == x.1) = false:=by simpa using fun e=>z e.symm
    split
    ·split
     ·rw [List.lookup_cons,hb]; exact hl
     ·exact hl
    ·exact hl
end
end Mine
end
section
set_option maxRecDepth 100000
namespace Mine
open PySem PySem.W PyProof.Rows
section
variable {G:Gd} {N:Names} {C:Calls} {d:Dp} {sc:Sc} {Γ:Gam} {A:Around} {t:Tie} {st st':MS} {s:Shared} {env:Env} {loc:Loc} {X Y Z:V} {v w:Value}
theorem FrOk.stepX {X:Addr → Prop} {t':Tie} {s':Shared} (F:FrOk G A t env Γ loc s) (R:Rel G t st s) (S:Step X t t' s s') (xp:∀ a,X a → t.pv a) (hl:¬ X env.locals) (hc:∀ n c,env.cells.lookup n = some c → ¬ X c) (nf:∀ a,X a → ¬ t.Fr a):FrOk G A t' env Γ loc s' where
 sk:=F.sk.step R S fun a x f=>(nf a x f).elim
 fn:=F.fn
 gl:=F.gl
 bl:=F.bl
 pvl:=by rw [S.le.pv]; exact F.pvl
 pvc n c h:=by rw [S.le.pv]; exact F.pvc n c h
 apart:=F.apart
 ex:=by
  obtain ⟨m,cm,⟨o,es,ep,ho,r⟩,hcc,hz,hs⟩:=F.ex
  obtain ⟨sl,ho'⟩:=Step.pvk S R F.pvl hl ho
  refine ⟨m,cm,⟨_,es,ep,ho',r⟩,fun n c e=>?_,hz,fun i x X e1 e2=>?_⟩
  ·obtain ⟨oc,h1,h2⟩:=hcc n c e
   obtain ⟨sl,h1'⟩:=Step.pvk S R (F.pvc n c e) (hc n c e) h1
   exact ⟨_,h1',h2⟩
  ·obtain ⟨v,hv,r⟩:=hs i x X e1 e2
   exact ⟨v,VRel.step S xp X hv,r⟩
theorem FrOk.hideGrow {s':Shared} {P:Addr → Prop} (F:FrOk G A t env Γ loc s) (np:∀ a,P a → s.heap.get? a = none) (hk:∀ b o,s.heap.get? b = some o → s'.heap.get? b = some o) (hg:s'.gens = s.gens) (ho:s'.os = s.os):FrOk G A (t.hide P) env Γ loc s' where
 sk:=⟨F.sk.fr,fun e he=>let ⟨h1,L,o,h2,h3,h4,h5⟩:=F.sk.ob e he; ⟨h1,L,o,h2,.inl h3,hk _ _ h4,h5⟩⟩
 fn:=F.fn
 gl:=F.gl
 bl:=F.bl
 pvl:=.inl F.pvl
 pvc n c h:=.inl (F.pvc n c h)
 apart:=F.apart
 ex:=by
  have S:Step noX (t.hide P) (t.hide P) s s':=⟨.refl _,fun a o e _ _ _=>hk a o e,fun a o e _ _ _=>⟨o.slots,hk a o e⟩,fun _ o=>.inl o,fun a o e=>by rw [hk a o e]; rfl,hg,ho⟩
  obtain ⟨m,cm,hn,hcc,hz,hs⟩:=F.ex
  refine ⟨m,cm,hn.keeps hk,fun n c e=>?_,hz,fun i x X e1 e2=>?_⟩
  ·obtain ⟨oc,h1,h2⟩:=hcc n c e
   exact ⟨oc,hk _ _ h1,h2⟩
  ·obtain ⟨v,hv,r⟩:=hs i x X e1 e2
   exact ⟨v,VRel.step S (fun _ z=>z.elim) X (VRel.hide np X hv),r⟩
theorem compSc_eq {scope:Scope} (hf:env.scope.kind = .function) (hsc:env.scope.names = sc):(relabel scope env).names = compSc sc scope.names:=by
 unfold relabel compSc
 dsimp only
 refine List.map_congr_left fun x hx=>?_
 obtain ⟨n,k⟩:=x
 simp only [hf,Env.kindOf,hsc,BEq.rfl,Bool.and_true]
theorem compSc_cell:∀ {names:Sc} {y:PySem.Str},(∀ z ∈ names,z.2 ≠ .cell) → (compSc sc names).lookup y = some .cell → (y,.free) ∈ names ∧ sc.lookup y = some .cell
 | [],_,_,h=>by exact no_none h
 | x :: r,y,hn,h=>by
  have ih:=@compSc_cell r y (fun z hz=>hn z (.tail _ hz))
  obtain ⟨n,k⟩:=x
  change List.lookup y ((if k == .free && sc.lookup n == some .cell then (n,.cell) else (n,k)) :: compSc sc r) = some .cell at h
  by_cases q:(k == .free && sc.lookup n == some .cell) = true
  ·rw [if_pos q,List.lookup_cons] at h
   simp only [Bool.and_eq_true,beq_iff_eq] at q
   cases z:y == n with
   | true =>
    have e:y = n:=by simpa using z
    subst e
    exact ⟨by rw [← q.1]; exact .head _,q.2⟩
   | false=>rw [z] at h; exact ⟨.tail _ (ih h).1,(ih h).2⟩
  ·rw [if_neg q,List.lookup_cons] at h
   cases z:y == n with
   | true=>rw [z] at h; cases h; exact absurd rfl (hn _ (.head _))
   | false=>rw [z] at h; exact ⟨.tail _ (ih h).1,(ih h).2⟩
set_option genCtorIdx false in
structure CompOk (sc:Sc) (scope:Scope) (slot:Nat) (Γ:Gam) (x:PySem.Str):Prop where
 fn:scope.kind = .function
 slot:slot < Γ.length
 x:scope.names.lookup x = some .local
 cell:∀ y ∈ scope.names,y.2 ≠ .cell
 loc:∀ y ∈ scope.names,y.2 = .local → scope.names.lookup y.1 = some .local
 free:∀ y ∈ scope.names,y.2 = .free → sc.lookup y.1 = some .cell
theorem compOk_real {scope:Scope} {slot:Nat} {x:PySem.Str} (h:compOk sc scope slot Γ x = true):CompOk sc scope slot Γ x:=by
 simp only [compOk,Bool.and_eq_true,beq_iff_eq,decide_eq_true_eq,List.all_eq_true] at h
 obtain ⟨⟨⟨h1,h2⟩,h3⟩,h4⟩:=h
 refine ⟨h1,h2,h3,fun y hy z=>?_,fun y hy z=>?_,fun y hy z=>?_⟩
 ·have:=h4 y hy; simp [z] at this
 ·have:=h4 y hy; simpa [z] using this
 ·have:=h4 y hy; simpa [z] using this
theorem FrOk.comp {scope:Scope} {slot:Nat} {x:PySem.Str} {Ca:Addr} {m:PySem.Str → Option Value} (F:FrOk G A t env Γ loc s) (hsc:env.scope.names = sc) (K:CompOk sc scope slot Γ x) (hC:t.pv Ca) (hn:s.heap.Ns Ca m) (hm:m x = some v) (hv:VRel t s.heap X v) :
  FrOk G A t (compEnvC scope (clo env scope.names []) Ca env) (compGam (compSc sc scope.names) Γ slot x) (loc.set slot (some X)) s:=by
 have hsc':=compSc_eq (scope:=scope) F.fn hsc
 obtain ⟨m0,cm,hn0,hcc,hz,hs⟩:=F.ex
 have lk:∀ n c,(clo env scope.names []).lookup n = some c → env.cells.lookup n = some c:=fun n c e=>(clo_mem (mem_of_lookup e)).elim (fun z=>by cases z) fun z=>z.2
 refine ⟨F.sk,K.fn,F.gl,F.bl,hC,fun n c h=>?_,fun n n' c h h'=>F.apart n n' c (lk n c h) (lk n' c h'),m,cm,hn,fun n c e=>hcc n c (lk n c e),fun y hy=>?_,fun i y Y e1 e2=>?_⟩
 ·exact F.pvc n c (lk n c h)
 ·change (relabel scope env).names.lookup y = some .cell at hy
  rw [hsc'] at hy
  obtain ⟨h1,h2⟩:=compSc_cell K.cell hy
  show ((clo env scope.names []).lookup y).isSome = true
  rw [clo_look (fun c z=>by cases z) (.inl h1)]
  exact hz y (by unfold Env.kindOf; rw [hsc]; exact h2)
 ·unfold compGam at e1
  by_cases q:i = slot
  ·subst q
   rw [List.getElem?_set_self (by rw [List.length_map]; exact K.slot)] at e1
   cases e1
   have e2':Y = X:=by
    by_cases hl2:i < loc.length
    ·rw [List.getElem?_set_self hl2] at e2; cases e2; rfl
    ·rw [List.getElem?_eq_none (by rw [List.length_set]; lia)] at e2; exact no_none e2
   subst e2'
   exact ⟨v,hv,.inl ⟨lookup_relabel_local K.x,hm⟩⟩
  ·rw [List.getElem?_set_ne (fun z=>q z.symm),List.getElem?_map] at e1
   rw [List.getElem?_set_ne (fun z=>q z.symm)] at e2
   obtain ⟨o,ho,e3⟩:=Option.map_eq_some_iff.mp e1
   cases o with
   | none=>exact no_none e3
   | some n =>
    dsimp only at e3
    split at e3
    ·rename_i hcell
     obtain rfl:n = y:=by cases e3; rfl
     have hcell:(compSc sc scope.names).lookup n = some .cell:=by simpa using hcell
     obtain ⟨h1,h2⟩:=compSc_cell K.cell hcell
     obtain ⟨u,u1,u2⟩:=hs i n Y ho e2
     have hk:env.kindOf n = some .cell:=by unfold Env.kindOf; rw [hsc]; exact h2
     refine ⟨u,u1,.inr ⟨?_,?_⟩⟩
     ·show (relabel scope env).names.lookup n = some .cell
      rw [hsc']; exact hcell
     ·rcases u2 with ⟨z,_⟩ | ⟨_,z⟩
      ·rw [hk] at z; cases z
      ·exact z
    ·exact no_none e3
end
end Mine
end
section
set_option maxRecDepth 100000
namespace Mine
open PySem PySem.W PyProof.Rows
section
variable {G:Gd} {N:Names} {C:Calls} {d:Dp} {sc:Sc} {Γ:Gam} {A:Around} {t:Tie} {st st':MS} {s:Shared} {env:Env} {loc:Loc} {X Y Z:V} {v w:Value}
inductive CondSim (G:Gd) (C:Calls) (d:Dp) (sc:Sc) (Γ:Gam):Option E → List PySem.Expr → Prop
 | none:CondSim G C d sc Γ none []
 | some {c:E} {ci:PySem.Expr}:SimT G C d sc Γ c ci → CondSim G C d sc Γ (some c) [ci]
noncomputable def condRun (P:Prog) (C:Calls) (cond:Option E) (loc:Loc) (st:MS):Res Bool :=
 match evC P C cond with
 | some c=>(c loc st).bind truth
 | none=>.ok true st
theorem cond_go {cond:Option E} {ifs:List PySem.Expr} (h:CondSim G C d sc Γ cond ifs) (hA:AOk d A) (hsc:env.scope.names = sc) (F:FrOk G A t env Γ loc s) (R:Rel G t st s) {b:Bool} (e:condRun G.P C cond loc st = .ok b st') :
  Sim G A t s (forIn ifs true fun c r=>if r = true then do let ok ← isTrue c env (eval c env); pure (ForInStep.yield ok) else pure (ForInStep.yield r)) st' (fun _ _ b'=>b' = b):=by
 cases h with
 | none =>
  cases e
  exact fun Q E k=>wpAny_pure (k true t s (.refl _ _ _) R rfl)
 | @some c ci h =>
  simp only [condRun,evC] at e
  obtain ⟨v,s1,e1,e⟩:=Res.bind_ok e
  obtain ⟨rfl,rfl⟩:=truth_ok e
  intro Q E k
  rw [List.forIn_cons]
  simp only [if_true]
  refine wpAny_bind (wpAny_bind (h t st s env loc b _ A hA hsc F R e1 _ _ fun b' t1 σ1 S1 R1 r1=>?_))
  exact wpAny_pure (wpAny_pure (k b' t1 σ1 S1 R1 r1))
inductive CEnd (G:Gd) (A:Around) (t:Tie) (σ:Shared) (st':MS) (vs:List V) (env:Env) (Γ:Gam) (loc:Loc) (Ca D:Addr) (se:Shared):Prop
 | mk (P:Addr → Prop) (τ:Tie) (s0 s1:Shared) (ys:Array Value) (m:PySem.Str → Option Value)
  (np:∀ a,P a → σ.heap.get? a = none) (pC:P Ca) (pD:P D) (DC:D ≠ Ca) (hk:∀ b o,σ.heap.get? b = some o → s0.heap.get? b = some o) (hg:s0.gens = σ.gens) (ho:s0.os = σ.os) (S:Step P (t.hide P) τ s0 s1) (R:Rel G τ st' s1) (F:FrOk G A τ env Γ loc s1)
  (hD:PL s1.heap D ys) (hv:VRels τ s1.heap vs ys.toList) (hz:vs.length ≤ sizeMax) (hn:se.heap.Ns Ca m) (hx:∀ b o,(P b → b = Ca ∨ b = D) → s1.heap.get? b = some o → se.heap.get? b = some o) (hg1:se.gens = s1.gens) (ho1:se.os = s1.os):CEnd G A t σ st' vs env Γ loc Ca D se
theorem compLoop_nil_ok {st₀:MS} {range:Bool} {src:V} {slot:Nat} {cnd:Option (Loc → MS → Res V)} {el:Loc → MS → Res V} {l:Loc} {acc vs:List V} {s s':MS} (e:compLoop st₀ range src slot cnd el l acc [] s = .ok vs s'):stays st₀ s range src = true ∧ acc = vs ∧ s = s':=by
 simp only [compLoop_nil] at e
 split at e
 ·rename_i h
  cases e; exact ⟨h,rfl,rfl⟩
 ·exact no_stuck e
theorem compLoop_cons_ok {st₀:MS} {range:Bool} {src x:V} {xs:List V} {slot:Nat} {P:Prog} {C:Calls} {cond:Option E} {el:Loc → MS → Res V} {l:Loc} {acc vs:List V} {s s':MS} (e:compLoop st₀ range src slot (evC P C cond) el l acc (x :: xs) s = .ok vs s') :
  stays st₀ s range src = true ∧ ∃ b s2,condRun P C cond (l.set slot (some x)) s = .ok b s2 ∧
   (b = false ∧ compLoop st₀ range src slot (evC P C cond) el l acc xs s2 = .ok vs s' ∨ b = true ∧ ∃ y s4,el (l.set slot (some x)) s2 = .ok y s4 ∧ acc.length + 1 ≤ sizeMax ∧ compLoop st₀ range src slot (evC P C cond) el l (acc ++ [y]) xs s4 = .ok vs s'):=by
 simp only [compLoop_cons] at e
 split at e
 case isFalse=>exact no_stuck e
 rename_i h
 obtain ⟨b,s2,e2,e⟩:=Res.bind_ok e
 refine ⟨h,b,s2,e2,?_⟩
 cases b with
 | false =>
  simp only [Bool.false_eq_true,if_false] at e
  exact .inl ⟨rfl,e⟩
 | true =>
  simp only [if_true] at e
  obtain ⟨y,s4,e4,e⟩:=Res.bind_ok e
  split at e
  case isFalse=>exact no_stuck e
  rename_i hlen
  exact .inr ⟨rfl,y,s4,e4,hlen,e⟩
inductive CInv (G:Gd) (A:Around) (C:Calls) (t:Tie) (env:Env) (Γ:Gam) (loc:Loc) (P:Addr → Prop) (Ca D I:Addr) (s0:Shared) (st₀:MS) (range:Bool) (src:V) (xs:List V) (slot:Nat) (cond:Option E) (el:E) (vs:List V) (st':MS):Nat → Shared → Prop
 | mk (τ:Tie) (σ1:Shared) (sti:MS) (ys:Array Value) (m:PySem.Str → Option Value) (done rest acc:List V) (hxs:xs = done ++ rest) (S:Step P (t.hide P) τ s0 σ1) (R:Rel G τ sti σ1) (F:FrOk G A τ env Γ loc σ1) (hn:σ1.heap.Ns Ca m) (hD:PL σ1.heap D ys)
   (hacc:VRels τ σ1.heap acc ys.toList) (hsz:acc.length ≤ sizeMax) (hI:ItOk G st₀ τ σ1 I range src done.length) (e:compLoop st₀ range src slot (evC G.P C cond) (ev G.P C el) loc acc rest sti = .ok vs st'):CInv G A C t env Γ loc P Ca D I s0 st₀ range src xs slot cond el vs st' rest.length σ1
theorem ns_some {h:Heap} {a:Addr} {m:PySem.Str → Option Value} (q:h.Ns a m):(h.get? a).isSome = true:=by obtain ⟨o,_,_,q,_⟩:=q; rw [q]; rfl
theorem pl_some {h:Heap} {a:Addr} {ys:Array Value} (q:PL h a ys):(h.get? a).isSome = true:=by obtain ⟨k,q⟩:=q; rw [q]; rfl
theorem ns_keep {h h':Heap} {a:Addr} {m:PySem.Str → Option Value} (q:h.Ns a m) (k:∀ o,h.get? a = some o → h'.get? a = some o):h'.Ns a m:=by obtain ⟨o,es,ep,q1,q2⟩:=q; exact ⟨o,es,ep,k o q1,q2⟩
theorem pl_keep {h h':Heap} {a:Addr} {ys:Array Value} (q:PL h a ys) (k:∀ o,h.get? a = some o → h'.get? a = some o):PL h' a ys:=by obtain ⟨z,q⟩:=q; exact ⟨z,k _ q⟩
theorem comp_turn {range:Bool} {src:V} {xs vs:List V} {st₀:MS} {slot:Nat} {cond:Option E} {el:E} {elt:PySem.Expr} {ifs:List PySem.Expr} {scope:Scope} {x:PySem.Str} {px:Pos} {P:Addr → Prop} {Ca D I:Addr} {σ s0:Shared} {RN J:Shared → Prop} {EE:Value → Shared → Prop} {τ:Tie} {σ1:Shared} {sti:MS} {ys:Array Value} {m:PySem.Str → Option Value} {done rest acc:List V}
  (hq:d.q = true) (hA:AOk d A) (hsc:env.scope.names = sc) (K:CompOk sc scope slot Γ x)
  (hcond:CondSim G C d (compSc sc scope.names) (compGam (compSc sc scope.names) Γ slot x) cond ifs) (hel:SimE G C d (compSc sc scope.names) (compGam (compSc sc scope.names) Γ slot x) el elt)
  (nF0:∀ a,P a → ¬ (t.hide P).Fr a) (np:∀ a,P a → σ.heap.get? a = none) (pC:P Ca) (pD:P D) (pI:P I) (pO:∀ a,P a → a = Ca ∨ a = D ∨ a = I) (DC:D ≠ Ca) (DI:D ≠ I) (CI:Ca ≠ I) (hk0:∀ b o,σ.heap.get? b = some o → s0.heap.get? b = some o) (hg0:s0.gens = σ.gens) (ho0:s0.os = σ.os)
  (hsc':(compEnvC scope (clo env scope.names []) Ca env).scope.names = compSc sc scope.names) (fl:¬ P env.locals) (fc:∀ n c,env.cells.lookup n = some c → ¬ P c)
  (hx:itemsOf st₀ range src = some xs) (hxs:xs = done ++ rest) (S:Step P (t.hide P) τ s0 σ1) (R:Rel G τ sti σ1) (F:FrOk G A τ env Γ loc σ1) (hn:σ1.heap.Ns Ca m) (hD:PL σ1.heap D ys)
  (hacc:VRels τ σ1.heap acc ys.toList) (hsz:acc.length ≤ sizeMax) (hI:ItOk G st₀ τ σ1 I range src done.length) (e:compLoop st₀ range src slot (evC G.P C cond) (ev G.P C el) loc acc rest sti = .ok vs st')
  (hRN:∀ se,CEnd G A t σ st' vs env Γ loc Ca D se → RN se) (hJ:∀ m s,m < rest.length → CInv G A C t env Γ loc P Ca D I s0 st₀ range src xs slot cond el vs st' m s → J s) :
  wpAny G.M A (pyNext (.ref I)) (fun r s₁=>match r with
   | none=>RN s₁
   | some v=>wpAny G.M A (assign (.Name x px) (compEnvC scope (clo env scope.names []) Ca env) v) (fun _ s₂ =>
     wpAny G.M A (forIn ifs true fun c r=>if r = true then do let ok ← isTrue c (compEnvC scope (clo env scope.names []) Ca env) (eval c (compEnvC scope (clo env scope.names []) Ca env)); pure (ForInStep.yield ok) else pure (ForInStep.yield r)) (fun ok s₃ =>
      if ok = true then wpAny G.M A (eval elt (compEnvC scope (clo env scope.names []) Ca env)) (fun x s₄=>wpAny G.M A (call (.builtin "list.append") [.ref D,x]) (fun _ s₅=>J s₅) EE s₄) EE s₃
      else J s₃) EE s₂) EE s₁) EE σ1:=by
 have hpv:∀ a,P a → τ.pv a:=fun a q=>by rw [S.le.pv]; exact .inr q
 have nF:∀ a,P a → ¬ τ.Fr a:=fun a q f=>nF0 a q (S.le.fr f)
 cases rest with
 | nil =>
  obtain ⟨hst,e1,e2⟩:=compLoop_nil_ok e
  have hI':ItOk G st₀ τ σ1 I range src xs.length:=by rw [hxs,List.append_nil]; exact hI
  refine it_end R (hA.hd hq) hx hst hI' fun h' tk hext=>?_
  refine hRN _ ⟨P,τ,s0,σ1,ys,m,np,pC,pD,DC,hk0,hg0,ho0,S,e2 ▸ R,F,hD,e1 ▸ hacc,e1 ▸ hsz,?_,?_,rfl,rfl⟩
  ·exact ns_keep hn fun o q=>hext _ _ CI q
  ·exact fun b o hb eb=>hext b o (fun z=>(hb (z ▸ pI)).elim (fun y=>CI (y.symm.trans z)) fun y=>DI (y.symm.trans z)) eb
 | cons x0 rest =>
  refine byQ fun Q' k'=>?_
  obtain ⟨hst,b,s2,e2,e⟩:=compLoop_cons_ok e
  refine k' ?_
  have hi:xs[done.length]? = some x0:=by rw [hxs,List.getElem?_append_right (Nat.le_refl _),Nat.sub_self]; rfl
  refine it_next R (hpv I pI) hx hst hI hi fun v h1 tk1 SA RA rv hIA=>?_
  -- the frame stands
  have FA:FrOk G A τ env Γ loc { σ1 with heap:=h1,toks:=tk1 }:=F.stepX R SA (fun a z=>by rw [z]; exact hpv _ pI) (fun z=>fl (by rw [z]; exact pI)) (fun n c hc z=>fc n c hc (by rw [z]; exact pI)) fun a z=>by rw [z]; exact nF _ pI
  have hnA:Heap.Ns h1 Ca m:=ns_keep hn fun o q=>SA.keep _ _ q (R.pv _ (hpv _ pC)) CI (nF _ pC)
  have hDA:PL h1 D ys:=pl_keep hD fun o q=>SA.keep _ _ q (R.pv _ (hpv _ pD)) DI (nF _ pD)
  have haccA:=VRels.step SA (fun a z=>by rw [z]; exact hpv _ pI) _ hacc
  refine wpAny_assign_Name (wpAny_storeName_local (lookup_relabel_local K.x) (s:={ σ1 with heap:=h1,toks:=tk1 }) hnA (fun h2 hn2 hs2=>?_) (by simp [compEnvC,relabel,K.fn]))
  change Heap.Ns h2 Ca _ at hn2
  change Heap.SameBut Ca h1 h2 at hs2
  have hl2:(h2.get? Ca).isSome = true:=ns_some hn2
  have SB:Step (· = Ca) τ τ { σ1 with heap:=h1,toks:=tk1 } { σ1 with heap:=h2,toks:=tk1 + 1 }:=Step.priv rfl hl2 hs2
  have RB:Rel G τ sti { σ1 with heap:=h2,toks:=tk1 + 1 }:=RA.priv (hpv _ pC) hl2 hs2
  have xB:∀ a,a = Ca → τ.pv a:=fun a z=>by rw [z]; exact hpv _ pC
  have FB:FrOk G A τ env Γ loc { σ1 with heap:=h2,toks:=tk1 + 1 }:=FA.stepX RA SB xB (fun z=>fl (by rw [z]; exact pC)) (fun n c hc z=>fc n c hc (by rw [z]; exact pC)) fun a z=>by rw [z]; exact nF _ pC
  have hDB:PL h2 D ys:=pl_keep hDA fun o q=>SB.keep _ _ q (RA.pv _ (hpv _ pD)) DC (nF _ pD)
  have haccB:=VRels.step SB xB _ haccA
  have rvB:VRel τ h2 x0 v:=VRel.step SB xB _ rv
  have hIB:=hIA.step SB xB RA.pv (hpv _ pI) (fun z=>CI z.symm) (nF _ pI)
  have FC:=FB.comp (x:=x) (X:=x0) hsc K (hpv _ pC) hn2 (by simp) rvB
  have SAB:Step P (t.hide P) τ s0 { σ1 with heap:=h2,toks:=tk1 + 1 }:=(S.trans (SA.mono fun a z=>by rw [z]; exact pI)).trans (SB.mono fun a z=>by rw [z]; exact pC)
  refine cond_go hcond hA hsc' FC RB e2 _ _ fun b' τ3 σ3 S3 R3 r3=>?_
  have hpv3:∀ a,P a → τ3.pv a:=fun a q=>by rw [S3.le.pv]; exact hpv a q
  have F3:=FB.step RB S3
  have nF3:∀ a,P a → ¬ τ3.Fr a:=fun a q f=>nF a q (S3.le.fr f)
  have hn3:=ns_keep (h':=σ3.heap) hn2 fun o q=>S3.keep _ _ q (RB.pv _ (hpv _ pC)) (fun z=>z) (nF _ pC)
  have hD3:PL σ3.heap D ys:=pl_keep hDB fun o q=>S3.keep _ _ q (RB.pv _ (hpv _ pD)) (fun z=>z) (nF _ pD)
  have hacc3:=VRels.step S3 (fun _ z=>z.elim) _ haccB
  have hI3:=hIB.step S3 (fun _ z=>z.elim) RB.pv (hpv _ pI) (fun z=>z) (nF _ pI)
  have S03:=SAB.trans (S3.mono fun a z=>z.elim)
  have hxs':xs = (done ++ [x0]) ++ rest:=by rw [hxs]; simp
  rcases e with ⟨z,e⟩ | ⟨z,y,s4,e4,hlen,e⟩
  ·rw [if_neg (by rw [r3,z]; exact Bool.false_ne_true)]
   exact hJ _ _ (Nat.lt_succ_self _) ⟨τ3,_,s2,ys,_,done ++ [x0],rest,acc,hxs',S03,R3,F3,hn3,hD3,hacc3,hsz,by rw [List.length_append]; exact hI3,e⟩
  ·rw [if_pos (r3.trans z)]
   have FC3:=FC.step RB S3
   refine hel τ3 s2 σ3 _ (loc.set slot (some x0)) y s4 A hA hsc' FC3 R3 e4 _ _ fun u τ4 σ4 S4 R4 r4=>?_
   have hpv4:∀ a,P a → τ4.pv a:=fun a q=>by rw [S4.le.pv]; exact hpv3 a q
   have F4:=F3.step R3 S4
   have nF4:∀ a,P a → ¬ τ4.Fr a:=fun a q f=>nF3 a q (S4.le.fr f)
   have hD4:PL σ4.heap D ys:=pl_keep hD3 fun o q=>S4.keep _ _ q (R3.pv _ (hpv3 _ pD)) (fun z=>z) (nF3 _ pD)
   have hacc4:=VRels.step S4 (fun _ z=>z.elim) _ hacc3
   have hI4:=hI3.step S4 (fun _ z=>z.elim) R3.pv (hpv3 _ pI) (fun z=>z) (nF3 _ pI)
   refine wpAny_list_append_plain (hsz:=by rw [size_of hacc4]; exact hsz) hD4 fun h5 hl5 hs5=>?_
   have hl:(h5.get? D).isSome = true:=pl_some hl5
   have S5:Step (· = D) τ4 τ4 σ4 { σ4 with heap:=h5,toks:=σ4.toks }:=Step.priv rfl hl hs5
   have xD:∀ a,a = D → τ4.pv a:=fun a z=>by rw [z]; exact hpv4 _ pD
   have R5:Rel G τ4 s4 { σ4 with heap:=h5,toks:=σ4.toks }:=R4.priv (hpv4 _ pD) hl hs5
   have F5:=F4.stepX R4 S5 xD (fun z=>fl (by rw [z]; exact pD)) (fun n c hc z=>fc n c hc (by rw [z]; exact pD)) fun a z=>by rw [z]; exact nF4 _ pD
   have hn5:=ns_keep (h':=h5) hn3 fun o q=>S5.keep _ _ (S4.keep _ _ q (R3.pv _ (hpv3 _ pC)) (fun z=>z) (nF3 _ pC)) (R4.pv _ (hpv4 _ pC)) (fun z=>DC z.symm) (nF4 _ pC)
   refine hJ _ _ (Nat.lt_succ_self _) ⟨τ4,_,s4,ys.push u,_,done ++ [x0],rest,acc ++ [y],hxs',(S03.trans (S4.mono fun a z=>z.elim)).trans (S5.mono fun a z=>by rw [z]; exact pD),R5,F5,hn5,hl5,?_,by rw [List.length_append]; exact hlen,?_,e⟩
   ·rw [Array.toList_push]
    exact (VRels.step S5 xD _ hacc4).append ⟨u,[],rfl,VRel.step S5 xD _ r4,rfl⟩
   ·have:=hI4.step S5 xD R4.pv (hpv4 _ pI) (fun z=>DI z.symm) (nF4 _ pI)
    rw [List.length_append]; exact this
theorem comp_loop {range:Bool} {src:V} {xs vs:List V} {st₀:MS} {slot:Nat} {cond:Option E} {el:E} {elt iter:PySem.Expr} {ifs:List PySem.Expr} {scope:Scope} {x:PySem.Str} {px pos:Pos} {P:Addr → Prop} {Ca D I:Addr} {σ s0:Shared} {m0:PySem.Str → Option Value} {RR:Result → Shared → Prop}
  (hq:d.q = true) (hA:AOk d A) (hsc:env.scope.names = sc) (K:CompOk sc scope slot Γ x)
  (hcond:CondSim G C d (compSc sc scope.names) (compGam (compSc sc scope.names) Γ slot x) cond ifs) (hel:SimE G C d (compSc sc scope.names) (compGam (compSc sc scope.names) Γ slot x) el elt)
  (nF0:∀ a,P a → ¬ (t.hide P).Fr a) (np:∀ a,P a → σ.heap.get? a = none) (pC:P Ca) (pD:P D) (pI:P I) (pO:∀ a,P a → a = Ca ∨ a = D ∨ a = I) (DC:D ≠ Ca) (DI:D ≠ I) (CI:Ca ≠ I) (hk0:∀ b o,σ.heap.get? b = some o → s0.heap.get? b = some o) (hg0:s0.gens = σ.gens) (ho0:s0.os = σ.os)
  (F0:FrOk G A (t.hide P) env Γ loc s0) (fl:¬ P env.locals) (fc:∀ n c,env.cells.lookup n = some c → ¬ P c) (R0:Rel G (t.hide P) st₀ s0) (hn0:s0.heap.Ns Ca m0) (hD0:PL s0.heap D #[]) (hI0:ItOk G st₀ (t.hide P) s0 I range src 0)
  (hx:itemsOf st₀ range src = some xs) (e:compLoop st₀ range src slot (evC G.P C cond) (ev G.P C el) loc [] xs st₀ = .ok vs st')
  (hRR:∀ se,CEnd G A t σ st' vs env Γ loc Ca D se → RR (.ok .next) se) :
  codeAny G.M A (.compLoop (.ListComp elt [⟨.Name x px,iter,ifs,0⟩] scope pos) 0 (.ref I) (.ref D) (compEnvC scope (clo env scope.names []) Ca env)) RR s0:=by
 have hsc':(compEnvC scope (clo env scope.names []) Ca env).scope.names = compSc sc scope.names:=compSc_eq F0.fn hsc
 refine codeAny_compLoop_tests (CInv G A C t env Γ loc P Ca D I s0 st₀ range src xs slot cond el vs st') (fun n σ1 h=>?_) xs.length ⟨t.hide P,s0,st₀,#[],m0,[],xs,[],rfl,.refl _ _ _,R0,F0,hn0,hD0,rfl,Nat.zero_le _,hI0,e⟩
 cases h with
 | mk τ σ1 sti ys m done rest acc hxs S R F hn hD hacc hsz hI e =>
  exact comp_turn hq hA hsc K hcond hel nF0 np pC pD pI pO DC DI CI hk0 hg0 ho0 hsc' fl fc hx hxs S R F hn hD hacc hsz hI e (fun se=>hRR se) fun m s hm h=>⟨m,hm,h⟩
end
end Mine
end
section
set_option maxRecDepth 100000
namespace Mine
open PySem PySem.W PyProof.Rows
noncomputable def notSet (x:PySem.Expr):Bool:=!Nat.beq x.ctorIdx 7
theorem notSet_pure {e:PySem.Expr} (h:notSet e = true) (env:Env) (x:Value):foldedSetIterable e env x = pure x:=by
 cases e <;> first | rfl | exact no_ft h
section
variable {G:Gd} {N:Names} {C:Calls} {d:Dp} {sc:Sc} {Γ:Gam} {A:Around} {t:Tie} {st st':MS} {s:Shared} {env:Env} {loc:Loc} {X Y Z:V} {v w:Value}
theorem sys_ne (O:G.Ok N) {t:Tie} {st:MS} {σ1 σ2:Shared} (R:Rel G t st σ1) (hk:∀ b o,σ1.heap.get? b = some o → σ2.heap.get? b = some o):σ2.heap.objs.size ≠ sysModules:=by
 obtain ⟨mc,⟨o,es,ep,ho,_⟩,_⟩:=O.lim
 have:=Heap.lt_size (hk _ _ (R.base _ _ ho))
 intro q
 rw [q] at this
 exact absurd this (by decide)
theorem comp_go (hq:d.q = true) (O:G.Ok N) {range:Bool} {src:V} {xs vs:List V} {s1:MS} {slot:Nat} {it:E} {cond:Option E} {el:E} {elt iast j:PySem.Expr} {ifs:List PySem.Expr} {scope:Scope} {x:PySem.Str} {px pos pos':Pos} {use:Option (Value → Sem Unit)} {Q E':Value → Shared → Prop}
  (hA:AOk d A) (hsc:env.scope.names = sc) (K:CompOk sc scope slot Γ x) (hset:notSet iast = true) (ha:IterAst sc range iast j) (hj:SimE G C d sc Γ it j)
  (hcond:CondSim G C d (compSc sc scope.names) (compGam (compSc sc scope.names) Γ slot x) cond ifs) (hel:SimE G C d (compSc sc scope.names) (compGam (compSc sc scope.names) Γ slot x) el elt)
  (F:FrOk G A t env Γ loc s) (R:Rel G t st s) (e1:ev G.P C it loc st = .ok src s1) (hx:itemsOf s1 range src = some xs) (e:compLoop s1 range src slot (evC G.P C cond) (ev G.P C el) loc [] xs s1 = .ok vs st')
  (hend:∀ t1 σ1 Ca D se,Step noX t t1 s σ1 → Rel G t1 s1 σ1 → D ≠ sysModules → CEnd G A t1 σ1 st' vs env Γ loc Ca D se → compPost G.M A E' use Q (.ref D) Ca (.ok .next) se) :
  wpAny G.M A (comprehension (.ListComp elt [⟨.Name x px,iast,ifs,0⟩] scope pos) scope env pos' (newList []) false (eval iast env) use) Q E' s:=by
 have hfree:∀ y ∈ scope.names,y.2 = .free → (env.cells.lookup y.1).isSome = true:=fun y hy z=>by
  obtain ⟨_,_,_,_,hz,_⟩:=F.ex
  exact hz y.1 (by unfold Env.kindOf; rw [hsc]; exact K.free y hy z)
 refine wpAny_comprehension_free (g:=⟨.Name x px,iast,ifs,0⟩) (gs:=[]) rfl (notSet_pure hset env) (closure_eq hfree) K.fn K.loc ?_
 refine iter_go O ha hj hA hsc F R e1 hx fun t1 σ1 σ2 I S1 R1 hk hI hIl hg ho hit=>?_
 refine wpAny_newObj_type (wpAny_newFunctionEnv K.cell (by intro y hy; simp at hy) (fun h₁ hns₁ hsb₁=>?_) K.fn)
 dsimp only at hns₁ hsb₁ ⊢
 generalize hH2:σ2.heap.push { cls:=.type "list",dict:=none,data:=.seq ([]:List Value).toArray } = H2 at hns₁ hsb₁ ⊢
 have hC:H2.objs.size = σ2.heap.objs.size + 1:=by rw [← hH2,Heap.size_push]
 have DC:σ2.heap.objs.size ≠ H2.objs.size:=by rw [hC]; exact Nat.ne_of_lt (Nat.lt_succ_self _)
 obtain ⟨oI,hoI⟩:=Option.isSome_iff_exists.mp hIl
 have ltI:=Heap.lt_size hoI
 have DI:σ2.heap.objs.size ≠ I:=fun z=>Nat.lt_irrefl _ (z ▸ ltI)
 have CI:H2.objs.size ≠ I:=fun z=>by rw [hC] at z; exact absurd ltI (by rw [← z]; exact Nat.not_lt.mpr (Nat.le_succ _))
 have old:∀ b o,σ2.heap.get? b = some o → h₁.get? b = some o:=fun b o e=>hsb₁.extBut b o (fun z=>by
  have:=Heap.lt_size e; rw [z,hC] at this; exact absurd this (Nat.not_lt.mpr (Nat.le_succ _))) (Heap.get?_push_of_some _ (hH2 ▸ Heap.get?_push_of_some _ e))
 have hacc:PL h₁ σ2.heap.objs.size #[]:=⟨_,hsb₁.extBut _ _ DC (Heap.get?_push_of_some _ (hH2 ▸ Heap.get?_push_size _ rfl))⟩
 let P:Addr → Prop:=fun a=>a = H2.objs.size ∨ a = σ2.heap.objs.size ∨ a = I
 have np:∀ a,P a → σ1.heap.get? a = none:=by
  rintro a (z | z | z)
  ·rw [z,hC]; exact none_later hk (size_none1 _)
  ·rw [z]; exact none_later hk (size_none _)
  ·rw [z]; exact hI
 have hk0:∀ b o,σ1.heap.get? b = some o → h₁.get? b = some o:=fun b o e=>old b o (hk b o e)
 have hlP:∀ a,P a → (h₁.get? a).isSome = true:=by
  rintro a (z | z | z)
  ·rw [z]; obtain ⟨o,_,_,q,_⟩:=hns₁; rw [q]; rfl
  ·rw [z]; obtain ⟨k,q⟩:=hacc; rw [q]; rfl
  ·rw [z,old _ _ hoI]; rfl
 have F1:=F.step R S1
 have notP:∀ a,t1.pv a → ¬ P a:=fun a q z=>by
  have:=R1.live a (.inr q)
  rw [np a z] at this; exact no_ft this
 have F0:FrOk G A (t1.hide P) env Γ loc { σ2 with heap:=h₁,toks:=σ2.toks + ([]:List (PySem.Str × Value)).length }:=F1.hideGrow np hk0 hg ho
 have R0:Rel G (t1.hide P) s1 { σ2 with heap:=h₁,toks:=σ2.toks + ([]:List (PySem.Str × Value)).length }:=R1.hideGrow np hk0 hlP hg ho
 have SG:Step noX (t1.hide P) (t1.hide P) σ1 { σ2 with heap:=h₁,toks:=σ2.toks + ([]:List (PySem.Str × Value)).length }:=⟨.refl _,fun a o e _ _ _=>hk0 a o e,fun a o e _ _ _=>⟨o.slots,hk0 a o e⟩,fun _ o=>.inl o,fun a o e=>by show (h₁.get? a).isSome = true; rw [hk0 a o e]; rfl,hg,ho⟩
 have I0:ItOk G s1 (t1.hide P) { σ2 with heap:=h₁,toks:=σ2.toks + ([]:List (PySem.Str × Value)).length } I range src 0:=hit _ _ (fun a r=>VRel.step SG (fun _ z=>z.elim) _ (VRel.hide np _ r)) rfl fun b o e=>old b o e
 have loop:codeAny G.M A (.compLoop (.ListComp elt [⟨.Name x px,iast,ifs,0⟩] scope pos) 0 (.ref I) (.ref σ2.heap.objs.size) (compEnvC scope (clo env scope.names []) H2.objs.size env))
   (compPost G.M A E' use Q (.ref σ2.heap.objs.size) H2.objs.size) { σ2 with heap:=h₁,toks:=σ2.toks + ([]:List (PySem.Str × Value)).length } :=
  comp_loop (P:=P) (t:=t1) (σ:=σ1) hq hA hsc K hcond hel (fun a q=>F1.sk.fresh (np a q)) np (.inl rfl) (.inr (.inl rfl)) (.inr (.inr rfl)) (fun a z=>z) DC DI CI hk0 hg ho F0 (notP _ F1.pvl) (fun n c hc=>notP _ (F1.pvc n c hc)) R0 hns₁ hacc I0 hx e fun se ce=>hend t1 σ1 _ _ se S1 R1 (sys_ne O R1 hk) ce
 exact codeAny_compStart_list loop (it_self R0 (hA.hd hq) I0 loop)
noncomputable def valM (M:Option Nat) (st:MS) (vs:List V):V:=match M with | none=>.lst vs | some k=>.ref (k,st.cnt k)
noncomputable def stM (M:Option Nat) (st:MS) (vs:List V):MS:=match M with | none=>st | some k=>st.new k (.list vs)
theorem VRels.all {t t':Tie} {h h':Heap} (k:∀ (X:V) (v:Value),VRel t h X v → VRel t' h' X v):∀ {l:List V} {vs:List Value},VRels t h l vs → VRels t' h' l vs
 | [],_,e=>e
 | x :: _,_,⟨v,r,e,a,b⟩=>⟨v,r,e,k x v a,VRels.all k b⟩
section
variable {P L:Addr → Prop} {τ:Tie} {σ s0 s1 se:Shared} {D:Addr} (R₁:Rel G t st σ) (np:∀ a,P a → σ.heap.get? a = none) (pD:P D) (hk0:∀ b o,σ.heap.get? b = some o → s0.heap.get? b = some o) (hg0:s0.gens = σ.gens) (ho0:s0.os = σ.os)
  (S:Step P (t.hide P) τ s0 s1) (R:Rel G τ st' s1) (hL:∀ a,L a → t.pv a ∧ (se.heap.get? a).isSome = true)
  (hext:∀ b o,(P b → b = D) → ¬ L b → s1.heap.get? b = some o → se.heap.get? b = some o) (hg:se.gens = s1.gens) (ho:se.os = s1.os)
include R₁ np pD hk0 hg0 ho0 S R hL hext hg ho
theorem end_own (hsys:D ≠ sysModules) {k:Nat} {o:MObj} (hO:∀ t2,(∀ (X:V) (v:Value),VRel τ s1.heap X v → VRel t2 se.heap X v) → t2.ρ (k,st'.cnt k) = some D → ObjOk G t2 se.heap (k,st'.cnt k) o) :
  ∃ t2,Step L t t2 σ se ∧ Rel G t2 (st'.new k o) se ∧ VRel t2 se.heap (.ref (k,st'.cnt k)) (.ref D) ∧ t2.pv = t.pv ∧ ∀ (X:V) (v:Value),VRel τ s1.heap X v → VRel t2 se.heap X v:=by
 have hpv:τ.pv = (t.hide P).pv:=S.le.pv
 have nP:∀ a,t.pv a → ¬ P a:=fun a q z=>by
  have:=R₁.live a (.inr q)
  rw [np a z] at this; exact no_ft this
 have pτ:∀ a,t.pv a → τ.pv a:=fun a q=>by rw [hpv]; exact .inl q
 have Fg:Forget P L τ { τ with pv:=t.pv,st:=t.st } s1 se :=
  ⟨rfl,rfl,fun a q=>⟨pτ a q,nP a q⟩,fun a q=>by rw [hpv]; exact .inr q,fun a q=>⟨pτ a (hL a q).1,(hL a q).2⟩,fun b o nb nl e=>hext b o (fun q=>(nb q).elim) nl e,hg,ho,rfl⟩
 have S2:=Step.unhide (X:=P) (fun a q=>.inl q) np hk0 hg0 ho0 S Fg
 have Fg':Forget (fun a=>P a ∧ a ≠ D) L τ { τ with pv:=fun a=>t.pv a ∨ a = D,st:=t.st } s1 se :=
  ⟨rfl,rfl,fun a q=>q.elim (fun q=>⟨pτ a q,fun z=>nP a q z.1⟩) (fun q=>⟨by rw [hpv,q]; exact .inr pD,fun z=>z.2 q⟩),fun a q=>by rw [hpv]; exact .inr q.1,fun a q=>⟨pτ a (hL a q).1,(hL a q).2⟩,
   fun b o nb nl e=>hext b o (fun q=>Classical.byContradiction fun z=>nb ⟨q,z⟩) nl e,hg,ho,rfl⟩
 obtain ⟨c1,c2,-⟩:=R.cnt k _ (Nat.le_refl _)
 have A:=(R.forget Fg').adopt (k:=k) (o:=o) (pv':=t.pv) (.inr rfl) (fun a=>Iff.rfl) (fun q=>nP D q pD) hsys fun up=>hO _ (fun X v r=>up X v (VRel.forget Fg' X r)) (if_pos rfl)
 exact ⟨_,S2.own (l:=(k,st'.cnt k)) (np D pD) c1 c2,A.1,⟨D,rfl,if_pos rfl⟩,rfl,fun X v r=>VRel.map A.2.1 A.2.2 X (VRel.forget Fg' X r)⟩
theorem comp_end (hsys:D ≠ sysModules) {ys:Array Value} {vs:List V} (hD:PL s1.heap D ys) (hacc:VRels τ s1.heap vs ys.toList) (hsz:vs.length ≤ sizeMax) (M:Option Nat) :
  ∃ t2,Step L t t2 σ se ∧ Rel G t2 (stM M st' vs) se ∧ VRel t2 se.heap (valM M st' vs) (.ref D) ∧ t2.pv = t.pv ∧ ∀ (X:V) (v:Value),VRel τ s1.heap X v → VRel t2 se.heap X v:=by
 have hpv:τ.pv = (t.hide P).pv:=S.le.pv
 have nP:∀ a,t.pv a → ¬ P a:=fun a q z=>by
  have:=R₁.live a (.inr q)
  rw [np a z] at this; exact no_ft this
 have hD':PL se.heap D ys:=let ⟨k,q⟩:=hD; ⟨k,hext D _ (fun _=>rfl) (fun q=>nP D (hL D q).1 pD) q⟩
 cases M with
 | none =>
  have pτ:∀ a,t.pv a → τ.pv a:=fun a q=>by rw [hpv]; exact .inl q
  have Fg:Forget P L τ { τ with pv:=t.pv,st:=t.st } s1 se :=
   ⟨rfl,rfl,fun a q=>⟨pτ a q,nP a q⟩,fun a q=>by rw [hpv]; exact .inr q,fun a q=>⟨pτ a (hL a q).1,(hL a q).2⟩,fun b o nb nl e=>hext b o (fun q=>(nb q).elim) nl e,hg,ho,rfl⟩
  refine ⟨_,Step.unhide (X:=P) (fun a q=>.inl q) np hk0 hg0 ho0 S Fg,R.forget Fg,⟨D,ys,rfl,hD',?_,hsz,VRels.forget Fg _ hacc⟩,rfl,fun X v r=>VRel.forget Fg X r⟩
  rintro (q | q)
  ·exact R.pv D (by rw [hpv]; exact .inr pD) q
  ·exact nP D q pD
 | some k=>exact end_own R₁ np pD hk0 hg0 ho0 S R hL hext hg ho hsys fun t2 up hr=>⟨D,ys,hr,hD',hsz,VRels.all up hacc⟩
end
theorem sim_comp (hq:d.q = true) (O:G.Ok N) {M:Option Nat} {range:Bool} {slot:Nat} {it:E} {cond:Option E} {el:E} {elt iast j:PySem.Expr} {ifs:List PySem.Expr} {scope:Scope} {x:PySem.Str} {px pos:Pos}
  (K:CompOk sc scope slot Γ x) (hset:notSet iast = true) (ha:IterAst sc range iast j) (hj:SimE G C d sc Γ it j)
  (hcond:CondSim G C d (compSc sc scope.names) (compGam (compSc sc scope.names) Γ slot x) cond ifs) (hel:SimE G C d (compSc sc scope.names) (compGam (compSc sc scope.names) Γ slot x) el elt) :
  SimE G C d sc Γ (.comp M slot range it cond el) (.ListComp elt [⟨.Name x px,iast,ifs,0⟩] scope pos):=by
 intro t st s env loc X st' A hA hsc F R e Q E k
 rw [ev_comp] at e
 obtain ⟨src,s1,e1,e⟩:=Res.bind_ok e
 split at e
 ·rename_i xs hx
  obtain ⟨vs,s2,e2,e⟩:=Res.bind_ok e
  obtain ⟨rfl,rfl⟩:X = valM M s2 vs ∧ st' = stM M s2 vs:=by cases M <;> (cases e; exact ⟨rfl,rfl⟩)
  rw [eval_ListComp]
  refine comp_go (use:=none) hq O hA hsc K hset ha hj hcond hel F R e1 hx e2 fun t1 σ1 Ca D se S1 R1 hsys ce=>?_
  obtain ⟨P,τ,s0,s1',ys,m,np,pC,pD,DC,hk0,hg0,ho0,S,Rr,Fr,hD,hacc,hsz,hn,hext,hg,ho⟩:=ce
  refine ⟨m,hn,fun h' hs=>?_⟩
  obtain ⟨t2,S2,R2,r2,-,-⟩:=comp_end (L:=noX) (se:={ se with heap:=h' }) R1 np pD hk0 hg0 ho0 S Rr (fun a z=>z.elim) (fun b o hb _ e=>(hs.2 b fun (z:b = Ca)=>DC (z ▸ hb (z ▸ pC)).symm).trans (hext b o (fun q=>.inr (hb q)) e)) hg ho hsys hD hacc hsz M
  exact k _ t2 _ (S1.trans S2) R2 r2
 ·exact no_stuck e
end
end Mine
end
section
set_option maxRecDepth 100000
namespace Mine
open PySem PySem.W PyProof.Rows
noncomputable def own (env:Env):Addr → Prop:=fun a=>a = env.locals ∨ ∃ n,env.cells.lookup n = some a
noncomputable def GamInj (Γ:Gam):Prop:=∀ (i j:Nat) (y:PySem.Str),Γ[i]? = some (some y) → Γ[j]? = some (some y) → i = j
section
variable {G:Gd} {N:Names} {C:Calls} {d:Dp} {sc:Sc} {Γ:Gam} {A:Around} {t:Tie} {st st':MS} {s:Shared} {env:Env} {loc:Loc} {X Y Z:V} {v w:Value}
theorem FrOk.ownPv (F:FrOk G A t env Γ loc s):∀ a,own env a → t.pv a:=by
 rintro a (rfl | ⟨n,h⟩)
 ·exact F.pvl
 ·exact F.pvc n a h
theorem FrOk.noClass (F:FrOk G A t env Γ loc s):(env.scope.kind == .class || (env.scope.kind == .module && env.locals != env.globals)) = false:=by rw [F.fn]; rfl
theorem ns_cell {h:Heap} {a c:Addr} {m:PySem.Str → Option Value} {o:Option Value} (hn:h.Ns a m) (hc:h.IsCell c o):c ≠ a:=fun z=>by
 obtain ⟨ob,es,ep,h1,h2,_⟩:=hn
 obtain ⟨oc,h3,h4⟩:=hc
 rw [z,h1] at h3
 cases h3
 rw [h2] at h4
 cases h4
theorem store_go (F:FrOk G A t env Γ loc s) (R:Rel G t st s) (gi:GamInj Γ) {i:Nat} {y:PySem.Str} (hi:Γ[i]? = some (some y)) (hk:env.kindOf y = some .local ∨ env.kindOf y = some .cell) (r:VRel t s.heap X v) {Q:Unit → Shared → Prop} {E':Value → Shared → Prop}
  (q:∀ s',Step (own env) t t s s' → Rel G t st s' → FrOk G A t env Γ (loc.set i (some X)) s' → Q () s'):wpAny G.M A (storeName env y v) Q E' s:=by
 obtain ⟨m,cm,hn,hcc,hz,hs⟩:=F.ex
 rcases hk with hk | hk
 ·refine wpAny_storeName_local hk hn (fun h' hn' hs'=>?_) F.noClass
  have hl:(h'.get? env.locals).isSome = true:=by obtain ⟨o,_,_,z,_⟩:=hn'; rw [z]; rfl
  have S:Step (own env) t t s { s with heap:=h',toks:=s.toks + 1 }:=Step.priv (.inl rfl) hl hs'
  have sk:Stk A t h':=F.sk.step R (Step.priv (X:=(· = env.locals)) (tk:=s.toks + 1) rfl hl hs') fun a x _ o e vs z=>by
   subst x
   obtain ⟨ob,es,ep,h1,h2,_⟩:=hn'
   rw [show h'.get? env.locals = some o from e] at h1; cases h1
   rw [h2] at z; cases z
  refine q _ S (R.priv F.pvl hl hs') ⟨sk,F.fn,F.gl,F.bl,F.pvl,F.pvc,F.apart,_,cm,hn',fun n c e=>?_,hz,fun j y' Y e1 e2=>?_⟩
  ·have hc:=hcc n c e
   have hne:=ns_cell hn hc
   obtain ⟨oc,h3,h4⟩:=hc
   exact ⟨oc,(hs'.2 c hne).trans h3,h4⟩
  ·by_cases z:j = i
   ·subst z
    rw [hi] at e1; cases e1
    have e3:Y = X:=by
     by_cases hl2:j < loc.length
     ·rw [List.getElem?_set_self hl2] at e2; cases e2; rfl
     ·rw [List.getElem?_eq_none (by rw [List.length_set]; lia)] at e2; exact no_none e2
    subst e3
    exact ⟨v,VRel.step S F.ownPv _ r,.inl ⟨hk,by simp⟩⟩
   ·rw [List.getElem?_set_ne (fun e=>z e.symm)] at e2
    obtain ⟨u,u1,u2⟩:=hs j y' Y e1 e2
    have hne:y' ≠ y:=fun e=>z (gi j i y (e ▸ e1) hi)
    refine ⟨u,VRel.step S F.ownPv _ u1,u2.imp (fun p=>⟨p.1,?_⟩) id⟩
    show (if y' = y then some v else m y') = some u
    rw [if_neg hne]; exact p.2
 ·obtain ⟨c,hcl⟩:=Option.isSome_iff_exists.mp (hz y hk)
  have hc:=hcc y c hcl
  have hne:=ns_cell hn hc
  refine wpAny_storeName_cell F.fn hk hcl hc fun h' hc' hs'=>?_
  have hl:(h'.get? c).isSome = true:=by obtain ⟨o,z,_⟩:=hc'; rw [z]; rfl
  have hmem:=hcl
  have S:Step (own env) t t s { s with heap:=h',toks:=s.toks }:=Step.priv (.inr ⟨y,hmem⟩) hl hs'
  have sk:Stk A t h':=F.sk.step R (Step.priv (X:=(· = c)) (tk:=s.toks) rfl hl hs') fun a x _ o e vs z=>by
   subst x
   obtain ⟨ob,h1,h2⟩:=hc'
   rw [show h'.get? a = some o from e] at h1; cases h1
   rw [h2] at z; cases z
  refine q _ S (R.priv (F.pvc y c hmem) hl hs') ⟨sk,F.fn,F.gl,F.bl,F.pvl,F.pvc,F.apart,m,fun n=>if n = y then some v else cm n,?_,fun n c' e=>?_,hz,fun j y' Y e1 e2=>?_⟩
  ·obtain ⟨o,es,ep,h1,h2⟩:=hn
   exact ⟨o,es,ep,(hs'.2 _ hne.symm).trans h1,h2⟩
  ·by_cases z:n = y
   ·subst z
    rw [hcl] at e; cases e
    show Heap.IsCell h' c (if n = n then some v else cm n)
    rw [if_pos rfl]; exact hc'
   ·have hne':c' ≠ c:=fun q=>z (F.apart n y c (q ▸ e) hcl)
    obtain ⟨oc,h3,h4⟩:=hcc n c' e
    show Heap.IsCell h' c' (if n = y then some v else cm n)
    rw [if_neg z]; exact ⟨oc,(hs'.2 c' hne').trans h3,h4⟩
  ·by_cases z:j = i
   ·subst z
    rw [hi] at e1; cases e1
    have e3:Y = X:=by
     by_cases hl2:j < loc.length
     ·rw [List.getElem?_set_self hl2] at e2; cases e2; rfl
     ·rw [List.getElem?_eq_none (by rw [List.length_set]; lia)] at e2; exact no_none e2
    subst e3
    exact ⟨v,VRel.step S F.ownPv _ r,.inr ⟨hk,by simp⟩⟩
   ·rw [List.getElem?_set_ne (fun e=>z e.symm)] at e2
    obtain ⟨u,u1,u2⟩:=hs j y' Y e1 e2
    have hne:y' ≠ y:=fun e=>z (gi j i y (e ▸ e1) hi)
    refine ⟨u,VRel.step S F.ownPv _ u1,u2.imp id (fun p=>⟨p.1,?_⟩)⟩
    show (if y' = y then some v else cm y') = some u
    rw [if_neg hne]; exact p.2
noncomputable def TopA (A:Around) (env:Env):Prop:=∃ outer,A.frames = some (env :: outer) ∧ env.frame = some env.locals
noncomputable def FlRel (t:Tie) (h:Heap):Fl → Flow → Prop
 | .next,f=>f = .next
 | .ret X,f=>∃ v,f = .ret v ∧ VRel t h X v
noncomputable def SimF (G:Gd) (A:Around) (env:Env) (Γ:Gam) (t:Tie) (s:Shared) (tree:Sem Flow) (st':MS) (fl:Fl) (loc':Loc):Prop :=
 ∀ (Q:Flow → Shared → Prop) (E:Value → Shared → Prop),(∀ f t' s',Step (own env) t t' s s' → Rel G t' st' s' → FrOk G A t' env Γ loc' s' → FlRel t' s'.heap fl f → Q f s') → wpAny G.M A tree Q E s
noncomputable def SimS (G:Gd) (C:Calls) (d:Dp) (sc:Sc) (Γ:Gam) (n:Nat) (x:S) (ast:Stmt):Prop :=
 ∀ t st s env loc fl loc' st' A,AOk d A → TopA A env → env.scope.names = sc → FrOk G A t env Γ loc s → Rel G t st s → ex G.P C n x loc st = .ok (fl,loc') st' → SimF G A env Γ t s (exec ast env) st' fl loc'
noncomputable def SimB (G:Gd) (C:Calls) (d:Dp) (sc:Sc) (Γ:Gam) (n:Nat) (l:List S) (m:List Stmt):Prop :=
 ∀ t st s env loc fl loc' st' A,AOk d A → TopA A env → env.scope.names = sc → FrOk G A t env Γ loc s → Rel G t st s → exs G.P C n l loc st = .ok (fl,loc') st' → SimF G A env Γ t s (execs m env) st' fl loc'
variable {n:Nat}
theorem SimF.ofE {A:Around} {tree:Sem Flow} {fl:Fl} {loc':Loc} {t1:Tie} {s1:Shared} (S:Step noX t t1 s s1) (h:SimF G A env Γ t1 s1 tree st' fl loc') {Q:Flow → Shared → Prop} {E':Value → Shared → Prop}
  (k:∀ f t' s',Step (own env) t t' s s' → Rel G t' st' s' → FrOk G A t' env Γ loc' s' → FlRel t' s'.heap fl f → Q f s'):wpAny G.M A tree Q E' s1 :=
 h Q E' fun f t' s' S' R' F' r=>k f t' s' ((S.mono fun _ z=>z.elim).trans S') R' F' r
theorem simB_nil:SimB G C d sc Γ n [] []:=by
 intro t st s env loc fl loc' st' A hA hT hsc F R e Q E k
 simp only [exs_nil,exs_cons] at e
 cases e
 exact wpAny_execs_nil (k _ t s (.refl _ _ _) R F rfl)
theorem simB_cons {x:S} {l:List S} {ast:Stmt} {m:List Stmt} (h1:SimS G C d sc Γ n x ast) (h2:SimB G C d sc Γ n l m):SimB G C d sc Γ n (x :: l) (ast :: m):=by
 intro t st s env loc fl loc' st' A hA hT hsc F R e Q E k
 simp only [exs_nil,exs_cons] at e
 obtain ⟨⟨f1,l1⟩,s1,e1,e⟩:=Res.bind_ok e
 refine wpAny_execs_cons (h1 t st s env loc f1 l1 s1 A hA hT hsc F R e1 _ _ fun f t1 σ1 S1 R1 F1 r1=>?_)
 cases f1 with
 | next =>
  have r1:f = .next:=r1
  subst r1
  exact h2 t1 s1 σ1 env l1 fl loc' st' A hA hT hsc F1 R1 e _ _ fun f t2 σ2 S2 R2 F2 r2=>k f t2 σ2 (S1.trans S2) R2 F2 r2
 | ret X =>
  obtain ⟨v,rfl,r⟩:=r1
  cases e
  exact k _ t1 σ1 S1 R1 F1 ⟨v,rfl,r⟩
noncomputable def notComp (x:PySem.Expr):Bool:=!(Nat.beq x.ctorIdx 8 || Nat.beq x.ctorIdx 9 || Nat.beq x.ctorIdx 10)
theorem swaps_no {e:PySem.Expr} (h:notComp e = true) (tg:Option PySem.Expr) (ln:Nat) (env:Env):swapsWith e tg ln env = pure false:=by
 cases e <;> first | rfl | exact no_ft h
theorem simS_expr {a:E} {x:PySem.Expr} {pos:Pos} (hx:notComp x = true) (ha:SimE G C d sc Γ a x):SimS G C d sc Γ n (.expr a) (.Expr x pos):=by
 intro t st s env loc fl loc' st' A hA hT hsc F R e Q E k
 simp only [ex_expr,ex_assign,ex_setattr,ex_setitem,ex_unpack,ex_ite,ex_for,ex_ret,ex_raise] at e
 obtain ⟨V,s1,e1,e⟩:=Res.bnd_ok e
 cases e
 refine wpAny_Expr_any (ha t st s env loc _ _ A hA hsc F R e1 _ _ fun v t1 σ1 S1 R1 r1=>?_) (by unfold interactive; rw [F.fn]; rfl) (swaps_no hx _ _ _)
 exact k _ t1 σ1 (S1.mono fun _ z=>z.elim) R1 (F.step R S1) rfl
theorem simS_ret0 {pos:Pos}:SimS G C d sc Γ n (.ret none) (.Return none pos):=by
 intro t st s env loc fl loc' st' A hA hT hsc F R e Q E k
 simp only [ex_expr,ex_assign,ex_setattr,ex_setitem,ex_unpack,ex_ite,ex_for,ex_ret,ex_raise] at e
 cases e
 exact wpAny_Return_none (k _ t s (.refl _ _ _) R F ⟨_,rfl,rfl⟩)
theorem simS_ret {a:E} {x:PySem.Expr} {pos:Pos} (ha:SimE G C d sc Γ a x):SimS G C d sc Γ n (.ret (some a)) (.Return (some x) pos):=by
 intro t st s env loc fl loc' st' A hA hT hsc F R e Q E k
 simp only [ex_expr,ex_assign,ex_setattr,ex_setitem,ex_unpack,ex_ite,ex_for,ex_ret,ex_raise] at e
 obtain ⟨V,s1,e1,e⟩:=Res.bnd_ok e
 cases e
 refine wpAny_Return_some (ha t st s env loc _ _ A hA hsc F R e1 _ _ fun v t1 σ1 S1 R1 r1=>?_)
 exact k _ t1 σ1 (S1.mono fun _ z=>z.elim) R1 (F.step R S1) ⟨v,rfl,r1⟩
noncomputable def kindOk (sc:Sc) (y:PySem.Str):Bool:=sc.lookup y == some .local || sc.lookup y == some .cell
theorem kindOk_real (hsc:env.scope.names = sc) {y:PySem.Str} (h:kindOk sc y = true):env.kindOf y = some .local ∨ env.kindOf y = some .cell:=by
 unfold Env.kindOf; rw [hsc]
 simpa [kindOk] using h
theorem simS_assign (gi:GamInj Γ) {i:Nat} {y:PySem.Str} {a:E} {x:PySem.Expr} {yp pos:Pos} (hi:Γ[i]? = some (some y)) (hk:kindOk sc y = true) (hx:notComp x = true) (ha:SimE G C d sc Γ a x):SimS G C d sc Γ n (.assign i a) (.Assign [.Name y yp] x pos):=by
 intro t st s env loc fl loc' st' A hA hT hsc F R e Q E k
 simp only [ex_expr,ex_assign,ex_setattr,ex_setitem,ex_unpack,ex_ite,ex_for,ex_ret,ex_raise] at e
 obtain ⟨V,s1,e1,e⟩:=Res.bnd_ok e
 split at e
 case isFalse=>exact no_stuck e
 cases e
 refine wpAny_Assign_Name (ha t st s env loc _ _ A hA hsc F R e1 _ _ fun v t1 σ1 S1 R1 r1=>?_) (swaps_no hx _ _ _)
 exact store_go (F.step R S1) R1 gi hi (kindOk_real hsc hk) r1 fun σ2 S2 R2 F2=>k _ t1 σ2 ((S1.mono fun _ z=>z.elim).trans S2) R2 F2 rfl
theorem swaps_attr (e o:PySem.Expr) (a:PySem.Str) (p:Pos) (ln:Nat) (env:Env):swapsWith e (some (.Attribute o a p)) ln env = pure false:=by cases e <;> rfl
theorem simS_setattr (O:G.Ok N) (hcl:∀ c Ca,G.ca c = some Ca → ClsOk G Ca) {i:Nat} {a b:E} {x y:PySem.Expr} {ap pos:Pos} (hi:i < 13) (ha:SimE G C d sc Γ a x) (hb:SimE G C d sc Γ b y):SimS G C d sc Γ n (.setattr a i b) (.Assign [.Attribute x (G.an i) ap] y pos):=by
 intro t st s env loc fl loc' st' A hA hT hsc F R e Q E k
 simp only [ex_expr,ex_assign,ex_setattr,ex_setitem,ex_unpack,ex_ite,ex_for,ex_ret,ex_raise] at e
 obtain ⟨V,s1,e1,e⟩:=Res.bnd_ok e
 obtain ⟨U,s2,e2,e⟩:=Res.bnd_ok e
 obtain ⟨u,s3,e3,e⟩:=Res.bnd_ok e
 cases e
 refine plainObj_wpAny_Assign_Attribute (hb t st s env loc _ _ A hA hsc F R e1 _ _ fun v t1 σ1 S1 R1 r1=>?_) (swaps_attr _ _ _ _ _ _)
 refine ha t1 s1 σ1 env loc _ _ A hA hsc (F.step R S1) R1 e2 _ _ fun w t2 σ2 S2 R2 r2=>?_
 refine setAttr_sound O hcl hi R2 r2 (VRel.step S2 (fun _ z=>z.elim) _ r1) e3 _ _ fun _ t3 σ3 S3 R3 _=>?_
 exact k _ t3 σ3 ((((S1.trans S2).trans S3)).mono fun _ z=>z.elim) R3 (((F.step R S1).step R1 S2).step R2 S3) rfl
theorem simS_setitem {a b c:E} {x y z:PySem.Expr} {ap pos:Pos} (hz:notComp z = true) (ha:SimE G C d sc Γ a x) (hb:SimE G C d sc Γ b y) (hc:SimE G C d sc Γ c z):SimS G C d sc Γ n (.setitem a b c) (.Assign [.Subscript x y ap] z pos):=by
 intro t st s env loc fl loc' st' A hA hT hsc F R e Q E k
 simp only [ex_expr,ex_assign,ex_setattr,ex_setitem,ex_unpack,ex_ite,ex_for,ex_ret,ex_raise] at e
 obtain ⟨V,s1,e1,e⟩:=Res.bnd_ok e
 obtain ⟨U,s2,e2,e⟩:=Res.bnd_ok e
 obtain ⟨W,s3,e3,e⟩:=Res.bnd_ok e
 obtain ⟨u,s4,e4,e⟩:=Res.bnd_ok e
 cases e
 refine wpAny_Assign_Subscript (hc t st s env loc _ _ A hA hsc F R e1 _ _ fun v t1 σ1 S1 R1 r1=>?_) (swaps_no hz _ _ _)
 have F1:=F.step R S1
 refine ha t1 s1 σ1 env loc _ _ A hA hsc F1 R1 e2 _ _ fun w t2 σ2 S2 R2 r2=>?_
 have F2:=F1.step R1 S2
 refine hb t2 s2 σ2 env loc _ _ A hA hsc F2 R2 e3 _ _ fun i t3 σ3 S3 R3 r3=>?_
 have F3:=F2.step R2 S3
 refine setItem_sound R3 (VRel.step S3 (fun _ z=>z.elim) _ r2) r3 (VRel.step (S2.trans S3) (fun _ z=>z.elim) _ r1) e4 _ _ fun _ t4 σ4 S4 R4 _=>?_
 exact k _ t4 σ4 ((((S1.trans S2).trans S3).trans S4).mono fun _ z=>z.elim) R4 (F3.step R3 S4) rfl
theorem simS_ite {c:E} {b1 b2:List S} {x:PySem.Expr} {m1 m2:List Stmt} {pos:Pos} (hc:SimT G C d sc Γ c x) (h1:SimB G C d sc Γ n b1 m1) (h2:SimB G C d sc Γ n b2 m2):SimS G C d sc Γ n (.ite c b1 b2) (.If x m1 m2 pos):=by
 intro t st s env loc fl loc' st' A hA hT hsc F R e Q E k
 simp only [ex_expr,ex_assign,ex_setattr,ex_setitem,ex_unpack,ex_ite,ex_for,ex_ret,ex_raise] at e
 obtain ⟨V,s1,e1,e⟩:=Res.bnd_ok e
 obtain ⟨b,s2,e2,e⟩:=Res.bnd_ok e
 obtain ⟨rfl,rfl⟩:=truth_ok e2
 refine wpAny_If (hc t st s env loc b _ A hA hsc F R e1 _ _ fun b' t1 σ1 S1 R1 r1=>?_)
 subst r1
 cases b' with
 | true =>
  simp only [if_true] at e ⊢
  exact SimF.ofE S1 (h1 t1 _ σ1 env loc fl loc' st' A hA hT hsc (F.step R S1) R1 e) k
 | false =>
  simp only [Bool.false_eq_true,if_false] at e ⊢
  exact SimF.ofE S1 (h2 t1 _ σ1 env loc fl loc' st' A hA hT hsc (F.step R S1) R1 e) k
end
end Mine
end
section
set_option maxRecDepth 100000
namespace Mine
open PySem PySem.W PyProof.Rows
section
variable {G:Gd} {N:Names} {C:Calls} {d:Dp} {sc:Sc} {Γ:Gam} {A:Around} {t:Tie} {st st':MS} {s:Shared} {env:Env} {loc:Loc} {X Y Z:V} {v w:Value} {n:Nat}
inductive TgtOk (G:Gd) (C:Calls) (d:Dp) (sc:Sc) (Γ:Gam):T → PySem.Expr → Prop
 | loc {i:Nat} {y:PySem.Str} {p:Pos} (hi:Γ[i]? = some (some y)) (hk:kindOk sc y = true):TgtOk G C d sc Γ (.loc i) (.Name y p)
 | item {a b:E} {x y:PySem.Expr} {p:Pos} (ha:SimE G C d sc Γ a x) (hb:SimE G C d sc Γ b y):TgtOk G C d sc Γ (.item a b) (.Subscript x y p)
inductive TgtsOk (G:Gd) (C:Calls) (d:Dp) (sc:Sc) (Γ:Gam):List T → List PySem.Expr → Prop
 | nil:TgtsOk G C d sc Γ [] []
 | cons {tg:T} {l:List T} {x:PySem.Expr} {m:List PySem.Expr}:TgtOk G C d sc Γ tg x → TgtsOk G C d sc Γ l m → TgtsOk G C d sc Γ (tg :: l) (x :: m)
inductive ForTgt (G:Gd) (C:Calls) (d:Dp) (sc:Sc) (Γ:Gam):T ⊕ List T → PySem.Expr → Prop
 | one {tg:T} {x:PySem.Expr}:TgtOk G C d sc Γ tg x → ForTgt G C d sc Γ (.inl tg) x
 | many {ts:List T} {xs:List PySem.Expr} {k:Nat} {p:Pos}:TgtsOk G C d sc Γ ts xs → ForTgt G C d sc Γ (.inr ts) (.Tuple xs k p)
theorem assign_Sub {o i:PySem.Expr} {pos':Pos} {v:Value} {Q:Unit → Shared → Prop} {E':Value → Shared → Prop}
  (h:wpAny G.M A (eval o env) (fun ov s₂=>wpAny G.M A (eval i env) (fun iv s₃=>wpAny G.M A (PySem.setItem ov iv v) Q E' s₃) E' s₂) E' s):wpAny G.M A (assign (.Subscript o i pos') env v) Q E' s:=fun Δ p hΔ=>by
 obtain ⟨rl,e⟩:∃ rl:Value → Value → List Value,assign (.Subscript o i pos') env v = (do
   let ov ← holding [v] (eval o env)
   let iv ← holding [v,ov] (eval i env)
   standAt pos'
   holding [v,ov,iv] (PySem.setItem ov iv v)
   release (rl ov iv) []):=⟨_,PySem.assign_Subscript o i pos' v⟩
 simp only [e,Sem.wp_bind',Sem.wp_holding,Sem.wp_cmd_standAt,Sem.wp_release]
 exact Sem.wp_mono _ Δ _ (fun ov p₂ s₂ h₂=>Sem.wp_mono _ Δ _ (fun iv _ s₃ h₃=>h₃ Δ _ hΔ) (fun _ _ _ h'=>h') _ _ (h₂ Δ p₂ hΔ)) (fun _ _ _ h'=>h') _ _ (h Δ _ hΔ)
noncomputable def SimA (G:Gd) (A:Around) (env:Env) (Γ:Gam) (t:Tie) (s:Shared) (tree:Sem Unit) (st':MS) (loc':Loc):Prop :=
 ∀ {Q:Unit → Shared → Prop} {E':Value → Shared → Prop},(∀ t' s',Step (own env) t t' s s' → Rel G t' st' s' → FrOk G A t' env Γ loc' s' → Q () s') → wpAny G.M A tree Q E' s
theorem tgt_go (gi:GamInj Γ) (hA:AOk d A) {tg:T} {x:PySem.Expr} (h:TgtOk G C d sc Γ tg x) (hsc:env.scope.names = sc) (F:FrOk G A t env Γ loc s) (R:Rel G t st s) (r:VRel t s.heap X v) {loc':Loc} (e:setT G.P C tg X loc st = .ok loc' st'):SimA G A env Γ t s (assign x env v) st' loc':=by
 intro Q E' q
 cases h with
 | loc hi hk =>
  simp only [setT] at e
  split at e
  case isFalse=>exact no_stuck e
  cases e
  exact wpAny_assign_Name (store_go F R gi hi (kindOk_real hsc hk) r (q t))
 | item ha hb =>
  obtain ⟨U,s2,e2,e⟩:=Res.bind_ok e
  obtain ⟨W,s3,e3,e⟩:=Res.bind_ok e
  obtain ⟨u,s4,e4,e⟩:=Res.bind_ok e
  cases e
  refine assign_Sub (ha t st s env loc _ _ A hA hsc F R e2 _ _ fun w t2 σ2 S2 R2 r2=>?_)
  have F2:=F.step R S2
  refine hb t2 s2 σ2 env loc _ _ A hA hsc F2 R2 e3 _ _ fun i t3 σ3 S3 R3 r3=>?_
  refine setItem_sound R3 (VRel.step S3 (fun _ z=>z.elim) _ r2) r3 (VRel.step (S2.trans S3) (fun _ z=>z.elim) _ r) e4 _ _ fun _ t4 σ4 S4 R4 _=>?_
  exact q t4 σ4 (((S2.trans S3).trans S4).mono fun _ z=>z.elim) R4 ((F2.step R2 S3).step R3 S4)
theorem tgts_star {ts:List T} {xs:List PySem.Expr} (h:TgtsOk G C d sc Γ ts xs) (env:Env):(assignEach xs env).map (·.2) = xs.map (fun x=>assign x env) ∧ (assignEach xs env).findIdx? (·.1) = none ∧ (assignEach xs env).length = ts.length:=by
 induction h with
 | nil=>exact ⟨rfl,rfl,rfl⟩
 | @cons tg l x m h1 h2 ih =>
  have e:assignEach (x :: m) env = (false,assign x env) :: assignEach m env:=by cases h1 <;> rfl
  rw [e]
  exact ⟨by rw [List.map_cons,ih.1]; rfl,by rw [List.findIdx?_cons,ih.2.1]; rfl,by rw [List.length_cons,ih.2.2]; rfl⟩
theorem tgts_go (gi:GamInj Γ) (hA:AOk d A) (hsc:env.scope.names = sc) {ts:List T} {xs:List PySem.Expr} (h:TgtsOk G C d sc Γ ts xs):∀ {Xs:List V} {vs:List Value} {loc loc':Loc} {t:Tie} {st:MS} {s:Shared},FrOk G A t env Γ loc s → Rel G t st s → VRels t s.heap Xs vs → setTs G.P C ts Xs loc st = .ok loc' st' →
  SimA G A env Γ t s (assignInOrder (xs.map fun x=>assign x env) vs) st' loc':=by
 induction h with
 | nil =>
  intro Xs vs loc loc' t st s F R r e Q E' q
  cases Xs with
  | nil=>cases e; cases r; exact assignInOrder_nil (q t s (.refl _ _ _) R F)
  | cons a l=>exact no_stuck e
 | cons h1 h2 ih =>
  intro Xs vs loc loc' t st s F R r e Q E' q
  cases Xs with
  | nil=>exact no_stuck e
  | cons a l =>
   obtain ⟨v,r',rfl,ra,rl⟩:=r
   obtain ⟨l1,s1,e1,e⟩:=Res.bind_ok (show (setT _ _ _ a loc st).bind (fun l' s=>setTs _ _ _ l l' s) = _ from e)
   refine assignInOrder_cons (tgt_go gi hA h1 hsc F R ra e1 fun t1 σ1 S1 R1 F1=>?_)
   exact ih F1 R1 (VRels.step S1 F.ownPv _ rl) e fun t2 σ2 S2 R2 F2=>q t2 σ2 (S1.trans S2) R2 F2
theorem unpack_go (hq:d.q = true) (gi:GamInj Γ) (hA:AOk d A) (hsc:env.scope.names = sc) {ts:List T} {xs:List PySem.Expr} {k:Nat} {p:Pos} (h:TgtsOk G C d sc Γ ts xs) (F:FrOk G A t env Γ loc s) (R:Rel G t st s) (r:VRel t s.heap X v) {loc':Loc} (e:unpackT G.P C ts X loc st = .ok loc' st'):SimA G A env Γ t s (assign (.Tuple xs k p) env v) st' loc':=by
 intro Q E' q
 cases X with
 | tup Xs =>
  simp only [unpackT] at e
  obtain ⟨a,vs,rfl,io,na,sz,rr⟩:=r
  obtain ⟨h1,h2,h3⟩:=tgts_star h env
  have hlen:∀ {ts:List T} {Xs:List V} {loc loc':Loc} {st st':MS},setTs G.P C ts Xs loc st = .ok loc' st' → ts.length = Xs.length:=by
   intro ts
   induction ts with
   | nil=>intro Xs loc loc' st st' e; cases Xs with | nil=>rfl | cons _ _=>exact no_stuck e
   | cons a l ih =>
    intro Xs loc loc' st st' e
    cases Xs with
    | nil=>exact no_stuck e
    | cons b m =>
     obtain ⟨_,_,_,e⟩:=Res.bind_ok (show (setT _ _ a b loc st).bind (fun l' s=>setTs _ _ l m l' s) = _ from e)
     simp [ih e]
  refine wpAny_assign_Tuple (hA.hd hq) io.isTuple (by rw [h3,hlen e,size_of rr]) h2 fun h' hext=>?_
  rw [h1]
  have hk:∀ b o,s.heap.get? b = some o → h'.get? b = some o:=fun b o e=>hext b o (fun z=>by rw [z,size_none] at e; exact no_none e) e
  have S0:Step noX t t s { s with heap:=h' }:=Step.grow R hk rfl rfl
  exact tgts_go gi hA hsc h (F.step R S0) (R.grow hk rfl rfl) (VRels.step S0 (fun _ z=>z.elim) _ rr) e fun t2 σ2 S2 R2 F2=>q t2 σ2 ((S0.mono fun _ z=>z.elim).trans S2) R2 F2
 | _=>exact no_stuck e
noncomputable def plainRhs:PySem.Expr → Bool
 | .Call ..=>true
 | .Name ..=>true
 | .Subscript ..=>true
 | _=>false
theorem swapped_no {e:PySem.Expr} (h:plainRhs e = true) (xs:List PySem.Expr) (k:Nat) (p:Pos) (ln:Nat) (env:Env):swapsWithSole [.Tuple xs k p] e ln env = pure false ∧ swappedStores [.Tuple xs k p] e env = pure none:=by
 cases e <;> first | exact ⟨rfl,rfl⟩ | exact no_ft h
theorem simS_unpack (hq:d.q = true) (gi:GamInj Γ) {ts:List T} {a:E} {xs:List PySem.Expr} {x:PySem.Expr} {k:Nat} {tp pos:Pos} (h:TgtsOk G C d sc Γ ts xs) (hx:plainRhs x = true) (ha:SimE G C d sc Γ a x):SimS G C d sc Γ n (.unpack ts a) (.Assign [.Tuple xs k tp] x pos):=by
 intro t st s env loc fl loc' st' A hA hT hsc F R e Q E k
 simp only [ex_expr,ex_assign,ex_setattr,ex_setitem,ex_unpack,ex_ite,ex_for,ex_ret,ex_raise] at e
 obtain ⟨V,s1,e1,e⟩:=Res.bnd_ok e
 obtain ⟨l2,s2,e2,e⟩:=Res.bnd_ok e
 cases e
 refine Assign_Tuple (ha t st s env loc _ _ A hA hsc F R e1 _ _ fun v t1 σ1 S1 R1 r1=>?_) (swapped_no hx _ _ _ _ _).1 (swapped_no hx _ _ _ 0 _).2
 exact unpack_go hq gi hA hsc h (F.step R S1) R1 r1 e2 fun t2 σ2 S2 R2 F2=>k _ t2 σ2 ((S1.mono fun _ z=>z.elim).trans S2) R2 F2 rfl
theorem Stk.back {t₁:Tie} {h h' h₁:Heap} {pv:Addr → Prop} (K:Stk A t h) (K1:Stk A t₁ h₁) (hs:t.st = t₁.st) (hp:pv = t₁.pv) {l:List Env} (hl:l = t₁.st) (hx:∀ L o,t₁.pv L → h.get? L = some o → h'.get? L = some o):Stk A { t with pv:=pv,st:=l } h' :=
 ⟨by rw [K.fr,hs,hl],fun e he=>by
  have he:e ∈ t₁.st:=hl ▸ he
  obtain ⟨h1,L,o,h2,h3,h4,h5⟩:=K.ob e (hs ▸ he)
  obtain ⟨-,L',o',g2,g3,-⟩:=K1.ob e he
  rw [h2] at g2; cases g2
  exact ⟨h1,L,o,h2,hp ▸ g3,hx L o g3 h4,h5⟩⟩
theorem FrOk.forget {P L:Addr → Prop} {t₁ t₂:Tie} {s₁ s₂:Shared} (Fg:Forget P L t₁ t₂ s₁ s₂) (F:FrOk G A t₁ env Γ loc s₁) (hp:∀ a,own env a → t₂.pv a) (ho:∀ a o,own env a → s₁.heap.get? a = some o → s₂.heap.get? a = some o) (sk:Stk A t₂ s₂.heap):FrOk G A t₂ env Γ loc s₂:=by
 obtain ⟨m,cm,⟨o,es,ep,hl,r⟩,hcc,hz,hs⟩:=F.ex
 refine ⟨sk,F.fn,F.gl,F.bl,hp _ (.inl rfl),fun n c h=>hp _ (.inr ⟨n,h⟩),F.apart,m,cm,⟨o,es,ep,ho _ _ (.inl rfl) hl,r⟩,fun n c e=>?_,hz,fun i x X e1 e2=>?_⟩
 ·obtain ⟨oc,h1,h2⟩:=hcc n c e
  exact ⟨oc,ho _ _ (.inr ⟨n,e⟩) h1,h2⟩
 ·obtain ⟨v,hv,r⟩:=hs i x X e1 e2
  exact ⟨v,VRel.forget Fg X hv,r⟩
theorem letOwned_tup {elts:List PySem.Expr} {k:Nat} {pos:Pos} {I l T:Addr} {i:Nat} {Q:Unit → Shared → Prop} {E:Value → Shared → Prop} (hit:s.heap.IsTupleIter I l i) (hQ:Q () s) :
  wpAny G.M A (letOwnedTupleGo (.Tuple elts k pos) (.ref I) (.ref T)) Q E s:=by
 obtain ⟨o,ho,hc,hd⟩:=hit
 unfold letOwnedTupleGo
 refine wpAny_bind (wpAny_load ho ?_)
 rw [hc,hd]
 exact wpAny_pure hQ
theorem for_asg (hq:d.q = true) (gi:GamInj Γ) (hA:AOk d A) {ts:T ⊕ List T} {tast:PySem.Expr} (ht:ForTgt G C d sc Γ ts tast) (hsc:env.scope.names = sc) {s1:MS} {range:Bool} {src:V} (hfo:forOk ts range src s1 = true) {I:Addr} {i:Nat} (FA:FrOk G A t env Γ loc s) (RA:Rel G t st s) (rv:VRel t s.heap X v)
  (hIA:ItOk G s1 t s I range src i) {loc':Loc} (e2:setTT G.P C ts X loc st = .ok loc' st') {Q':Unit → Shared → Prop} {E':Value → Shared → Prop} (q:∀ t' s',Step (own env) t t' s s' → Rel G t' st' s' → FrOk G A t' env Γ loc' s' → Q' () s') :
  wpAny G.M A (letOwnedTupleGo tast (.ref I) v) (fun _ s'=>wpAny G.M A (assign tast env v) Q' E' s') E' s:=by
 cases ht with
 | one h =>
  have hl:letOwnedTupleGo tast (.ref I) v = pure ():=by cases h <;> rfl
  rw [hl]
  exact wpAny_pure (tgt_go gi hA h hsc FA RA rv e2 q)
 | many h =>
  obtain ⟨hr,hfs⟩:=Bool.and_eq_true_iff.1 (hfo:(!range && (seqOf s1 src).isSome) = true)
  cases range with
  | true=>exact no_ft hr
  | false =>
  cases X with
  | tup Xs =>
   obtain ⟨a',vs,rfl,io⟩:=id rv
   rcases hIA with ⟨kk,l,a,es,r,hli⟩ | ⟨r,dd,a,kvs,ep,rfl,es,_⟩ | ⟨x,St,rfl,_⟩
   ·cases kk with
    | true=>exact wpAny_letOwnedTupleGo_listiter (show Heap.IsListIter _ I a _ from hli) (unpack_go hq gi hA hsc h FA RA rv e2 q)
    | false=>exact letOwned_tup (show Heap.IsTupleIter _ I a _ from hli) (unpack_go hq gi hA hsc h FA RA rv e2 q)
   ·cases hz:seqOf s1 (.ref r) with
    | none=>rw [hz] at hfs; exact no_ft hfs
    | some p=>rw [dictAt_seq hz] at es; exact no_none es
   ·exact no_ft hfs
  | _=>exact no_stuck e2
theorem fl_ok {a b:Fl} {l m:Loc} {s t:MS} (e:Res.ok (a,l) s = Res.ok (b,m) t):a = b ∧ l = m ∧ s = t:=by cases e; exact ⟨rfl,rfl,rfl⟩
theorem forLoop_nil_ok {st₀:MS} {range:Bool} {src:V} {tg:V → Loc → MS → Res Loc} {bd:Loc → MS → Res (Fl × Loc)} {l l':Loc} {s s':MS} {fl:Fl} (e:forLoop st₀ range src tg bd [] l s = .ok (fl,l') s'):stays st₀ s range src = true ∧ .next = fl ∧ l = l' ∧ s = s':=by
 simp only [forLoop_nil] at e
 split at e
 ·rename_i h
  exact ⟨h,fl_ok e⟩
 ·exact no_stuck e
theorem forLoop_cons_ok {st₀:MS} {range:Bool} {src x:V} {xs:List V} {tg:V → Loc → MS → Res Loc} {bd:Loc → MS → Res (Fl × Loc)} {l l':Loc} {s s':MS} {fl:Fl} (e:forLoop st₀ range src tg bd (x :: xs) l s = .ok (fl,l') s') :
  stays st₀ s range src = true ∧ ∃ l2 s2 f3 l3 s3,tg x l s = .ok l2 s2 ∧ bd l2 s2 = .ok (f3,l3) s3 ∧ (match f3 with | .next=>forLoop st₀ range src tg bd xs l3 s3 | .ret v=>.ok (.ret v,l3) s3) = .ok (fl,l') s':=by
 simp only [forLoop_cons] at e
 split at e
 ·rename_i h
  obtain ⟨l2,s2,e2,e⟩:=Res.bnd_ok e
  obtain ⟨⟨f3,l3⟩,s3,e3,e⟩:=Res.bind_ok e
  exact ⟨h,l2,s2,f3,l3,s3,e2,e3,e⟩
 ·exact no_stuck e
inductive FInv (G:Gd) (A:Around) (C:Calls) (t:Tie) (env:Env) (Γ:Gam) (I:Addr) (s0:Shared) (s1:MS) (range:Bool) (src:V) (xs:List V) (ts:T ⊕ List T) (n:Nat) (body:List S) (fl:Fl) (loc':Loc) (st':MS):Nat → Shared → Prop
 | mk (τ:Tie) (σ:Shared) (sti:MS) (locI:Loc) (done rest:List V) (hxs:xs = done ++ rest) (S:Step (fun a=>a = I ∨ own env a) t τ s0 σ) (R:Rel G τ sti σ) (F:FrOk G A τ env Γ locI σ) (hI:ItOk G s1 τ σ I range src done.length)
   (e:forLoop s1 range src (setTT G.P C ts) (exs G.P C n body) rest locI sti = .ok (fl,loc') st'):FInv G A C t env Γ I s0 s1 range src xs ts n body fl loc' st' rest.length σ
theorem for_turn (hq:d.q = true) (gi:GamInj Γ) {ts:T ⊕ List T} {range:Bool} {body:List S} {tast:PySem.Expr} {m:List Stmt} (ht:ForTgt G C d sc Γ ts tast) (hb:SimB G C d sc Γ n body m) (hA:AOk d A) (hT:TopA A env) (hsc:env.scope.names = sc)
  {I:Addr} {s0 σ:Shared} {s1 sti st':MS} {src:V} {xs done rest:List V} {τ:Tie} {locI loc':Loc} {fl:Fl} {RR:Flow → Shared → Prop} {J:Shared → Prop} {EE:Value → Shared → Prop}
  (hfo:forOk ts range src s1 = true) (hx:itemsOf s1 range src = some xs) (nI:¬ own env I) (hpI:t.pv I) (nF0:¬ t.Fr I)
  (hxs:xs = done ++ rest) (S:Step (fun a=>a = I ∨ own env a) t τ s0 σ) (Rr:Rel G τ sti σ) (Fr:FrOk G A τ env Γ locI σ) (hIt:ItOk G s1 τ σ I range src done.length) (e:forLoop s1 range src (setTT G.P C ts) (exs G.P C n body) rest locI sti = .ok (fl,loc') st')
  (fin:∀ {τ:Tie} {σ5 se:Shared} {f:Flow},Step (fun a=>a = I ∨ own env a) t τ s0 σ5 → Rel G τ st' σ5 → FrOk G A τ env Γ loc' σ5 → (∀ b o,b ≠ I → σ5.heap.get? b = some o → se.heap.get? b = some o) → se.gens = σ5.gens → se.os = σ5.os → FlRel τ σ5.heap fl f → RR f se)
  (hJ:∀ m s,m < rest.length → FInv G A C t env Γ I s0 s1 range src xs ts n body fl loc' st' m s → J s) :
  wpAny G.M A (pyNext (.ref I)) (fun r s₁=>match r with
   | none=>wpAny G.M A (execs [] env) (fun f s₃=>RR f s₃) EE s₁
   | some v=>wpAny G.M A (letOwnedTupleGo tast (.ref I) v) (fun _ s₁' =>
     wpAny G.M A (assign tast env v) (fun _ s₂=>wpAny G.M A (execs m env) (fun f s₃=>match f with
      | .next | .cont=>J s₃
      | .brk=>RR .next s₃
      | .ret v=>RR (.ret v) s₃) EE s₂) EE s₁') EE s₁) EE σ:=by
 have pI:τ.pv I:=by rw [S.le.pv]; exact hpI
 have nF:¬ τ.Fr I:=fun f=>nF0 (S.le.fr f)
 cases rest with
 | nil =>
  obtain ⟨hst,e1,e2,e3⟩:=forLoop_nil_ok e
  have hIt':ItOk G s1 τ σ I range src xs.length:=by rw [hxs,List.append_nil]; exact hIt
  refine it_end Rr (hA.hd hq) hx hst hIt' fun h' tk hext=>?_
  exact wpAny_execs_nil (fin S (e3 ▸ Rr) (e2 ▸ Fr) (fun b o nb e=>hext b o nb e) rfl rfl (show FlRel τ σ.heap fl .next from e1 ▸ rfl))
 | cons x0 rest =>
  refine byQ fun Q' k'=>?_
  obtain ⟨hst,l2,s2,f3,l3,s3,e2,e3,e⟩:=forLoop_cons_ok e
  refine k' ?_
  have hi:xs[done.length]? = some x0:=by rw [hxs,List.getElem?_append_right (Nat.le_refl _),Nat.sub_self]; rfl
  refine it_next Rr pI hx hst hIt hi fun v h1 tk1 SA RA rv hIA=>?_
  have xA:∀ a,a = I → τ.pv a:=fun a z=>by rw [z]; exact pI
  have FA:FrOk G A τ env Γ locI { σ with heap:=h1,toks:=tk1 }:=Fr.stepX Rr SA xA (fun z=>nI (.inl z.symm)) (fun nm c hc z=>nI (.inr ⟨nm,by rw [← z]; exact hc⟩)) fun a z=>by rw [z]; exact nF
  have SA':Step (fun a=>a = I ∨ own env a) τ τ σ { σ with heap:=h1,toks:=tk1 }:=SA.mono fun a z=>.inl z
  refine for_asg hq gi hA ht hsc hfo FA RA rv hIA e2 fun τ4 σ4 S4 R4 F4=>?_
  have S4':Step (fun a=>a = I ∨ own env a) τ τ4 { σ with heap:=h1,toks:=tk1 } σ4:=S4.mono fun a z=>.inr z
  have hI4:=hIA.step S4 FA.ownPv RA.pv pI nI nF
  have nF4:¬ τ4.Fr I:=fun f=>nF (S4.le.fr f)
  have pI:τ4.pv I:=by rw [S4.le.pv]; exact pI
  refine hb τ4 s2 σ4 env l2 f3 l3 s3 A hA hT hsc F4 R4 e3 _ _ fun f t5 σ5 S5 R5 F5 r5=>?_
  have S5':Step (fun a=>a = I ∨ own env a) τ4 t5 σ4 σ5:=S5.mono fun a z=>.inr z
  have S05:=((S.trans SA').trans S4').trans S5'
  cases f3 with
  | next =>
   have r5:f = .next:=r5
   subst r5
   refine hJ _ _ (Nat.lt_succ_self _) ⟨t5,_,s3,l3,done ++ [x0],rest,by rw [hxs,List.append_assoc]; rfl,S05,R5,F5,?_,e⟩
   rw [List.length_append]
   exact hI4.step S5 F4.ownPv R4.pv pI nI nF4
  | ret V3 =>
   obtain ⟨u,rfl,ru⟩:=r5
   obtain ⟨q1,q2,q3⟩:=fl_ok e
   exact fin S05 (q3 ▸ R5) (q2 ▸ F5) (fun _ _ _ e=>e) rfl rfl (show FlRel t5 σ5.heap fl (.ret u) from q1 ▸ ⟨u,rfl,ru⟩)
theorem for_fin {I:Addr} {t1:Tie} {σ1 s0 s:Shared} {Q:Flow → Shared → Prop} {loc':Loc} {fl:Fl} (np:∀ a,a = I → σ1.heap.get? a = none) (hk:∀ b o,σ1.heap.get? b = some o → s0.heap.get? b = some o) (hg:s0.gens = σ1.gens) (ho:s0.os = σ1.os) (S1:Step noX t t1 s σ1) (F1:FrOk G A t1 env Γ loc σ1) (nP:∀ a,t1.pv a → ¬ a = I) (nI:¬ own env I)
  (k:∀ f t' s',Step (own env) t t' s s' → Rel G t' st' s' → FrOk G A t' env Γ loc' s' → FlRel t' s'.heap fl f → Q f s')
  {τ:Tie} {σ5 se:Shared} {f:Flow} (S:Step (fun a=>a = I ∨ own env a) (t1.hide fun a=>a = I) τ s0 σ5) (R5:Rel G τ st' σ5) (F5:FrOk G A τ env Γ loc' σ5) (hext:∀ b o,b ≠ I → σ5.heap.get? b = some o → se.heap.get? b = some o) (hg5:se.gens = σ5.gens) (ho5:se.os = σ5.os) (rf:FlRel τ σ5.heap fl f):Q f se:=by
 have hpv:τ.pv = (t1.hide fun a=>a = I).pv:=S.le.pv
 have Fg:Forget (fun a=>a = I) (own env) τ { τ with pv:=t1.pv,st:=t1.st } σ5 se :=
  ⟨rfl,rfl,fun a q=>⟨by rw [hpv]; exact .inl q,nP a q⟩,fun a q=>by rw [hpv]; exact .inr q,fun a q=>⟨F5.ownPv a q,by
   obtain ⟨o,e⟩:=Option.isSome_iff_exists.mp (R5.live a (.inr (F5.ownPv a q)))
   rw [hext a o (fun z=>nI (z ▸ q)) e]; rfl⟩,fun b o nb _ e=>hext b o nb e,hg5,ho5,rfl⟩
 have S':=Step.unhide (t:=t1) (L:=own env) (fun a q=>q) np hk hg ho S Fg
 refine k f _ se ((S1.mono fun _ z=>z.elim).trans S') (R5.forget Fg) (F5.forget Fg (fun a q=>F1.ownPv a q) (fun a o q e=>hext a o (fun z=>nI (z ▸ q)) e) (F5.sk.back F1.sk S.le.st rfl rfl fun L o q e=>hext L o (fun z=>nP L q z) e)) ?_
 cases fl with
 | next=>exact rf
 | ret X=>obtain ⟨v,q1,q2⟩:=rf; exact ⟨v,q1,VRel.forget Fg _ q2⟩
theorem simS_for (hq:d.q = true) (O:G.Ok N) (gi:GamInj Γ) {ts:T ⊕ List T} {range:Bool} {it:E} {body:List S} {tast iast j:PySem.Expr} {m:List Stmt} {pos:Pos} (ht:ForTgt G C d sc Γ ts tast) (hset:notSet iast = true) (hia:IterAst sc range iast j) (hj:SimE G C d sc Γ it j) (hb:SimB G C d sc Γ n body m) :
  SimS G C d sc Γ n (.for_ ts range it body) (.For tast iast m [] pos):=by
 intro t st s env loc fl loc' st' A hA hT hsc F R e Q E k
 simp only [ex_expr,ex_assign,ex_setattr,ex_setitem,ex_unpack,ex_ite,ex_for,ex_ret,ex_raise] at e
 obtain ⟨src,s1,e1,e⟩:=Res.bnd_ok e
 split at e
 case h_2=>exact no_stuck e
 rename_i xs hx
 split at e
 case isFalse=>exact no_stuck e
 rename_i hfo
 refine wpAny_For (iter_go O hia hj hA hsc F R e1 hx fun t1 σ1 s0 I S1 R1 hk hI hIl hg ho hit=>?_) (notSet_pure hset env)
 let P:Addr → Prop:=fun a=>a = I
 have np:∀ a,P a → σ1.heap.get? a = none:=fun a z=>by rw [show a = I from z]; exact hI
 have F1:=F.step R S1
 have R0:Rel G (t1.hide P) s1 s0:=R1.hideGrow np hk (fun a z=>by rw [show a = I from z]; exact hIl) hg ho
 have F0:FrOk G A (t1.hide P) env Γ loc s0:=F1.hideGrow np hk hg ho
 have SG:Step noX (t1.hide P) (t1.hide P) σ1 s0:=⟨.refl _,fun a o e _ _ _=>hk a o e,fun a o e _ _ _=>⟨o.slots,hk a o e⟩,fun _ o=>.inl o,fun a o e=>by rw [hk a o e]; rfl,hg,ho⟩
 have I0:ItOk G s1 (t1.hide P) s0 I range src 0:=hit _ _ (fun a r=>VRel.step SG (fun _ z=>z.elim) _ (VRel.hide np _ r)) rfl fun b o e=>e
 have nP:∀ a,t1.pv a → ¬ P a:=fun a q z=>by
  have:=R1.live a (.inr q)
  rw [np a z] at this; exact no_ft this
 have nI:¬ own env I:=fun q=>nP I (F1.ownPv I q) rfl
 have nF0:¬ (t1.hide P).Fr I:=F1.sk.fresh hI
 refine codeAny_forLoop_any (FInv G A C (t1.hide P) env Γ I s0 s1 range src xs ts n body fl loc' st') (fun nn σ h=>?_) xs.length ⟨t1.hide P,s0,s1,loc,[],xs,rfl,.refl _ _ _,R0,F0,I0,e⟩
 cases h with
 | mk τ σ sti locI done rest hxs S Rr Fr hIt e=>exact for_turn (t:=t1.hide P) hq gi ht hb hA hT hsc hfo hx nI (.inr rfl) nF0 hxs S Rr Fr hIt e (for_fin np hk hg ho S1 F1 nP nI k) fun m s hm h=>⟨m,hm,h⟩
end
end Mine
end
section
set_option maxRecDepth 100000
namespace Mine
open PySem PySem.W PyProof.Rows
section
variable {G:Gd} {N:Names} {C:Calls} {d:Dp} {sc:Sc} {Γ:Gam} {A:Around} {t:Tie} {st st':MS} {s:Shared} {env:Env} {loc:Loc} {X Y Z:V} {v w:Value} {n:Nat}
end
end Mine
end
section
set_option maxRecDepth 100000
namespace Mine
open PySem PySem.W PyProof.Rows
noncomputable def gam0 (fn:Fn):Gam:=fn.names.map fun x=>if x == Str.empty then none else some x
section
variable {G:Gd} {N:Names} {C:Calls} {d:Dp} {sc:Sc} {Γ:Gam} {A:Around} {t:Tie} {st st':MS} {s:Shared} {env:Env} {loc:Loc} {X Y Z:V} {v w:Value} {n:Nat}
theorem bindL_skip (k:PySem.Str → Option NameKind):∀ (b:List (PySem.Str × Value)) (m:PySem.Str → Option Value) (x:PySem.Str),x ∉ b.map (·.1) → bindL k b m x = m x
 | [],_,_,_=>rfl
 | (y,v) :: r,m,x,h=>by
  simp only [List.map_cons,List.mem_cons,not_or] at h
  rw [bindL,bindL_skip k r _ x h.2]
  split
  ·exact if_neg h.1
  ·rfl
theorem bindC_skip (k:PySem.Str → Option NameKind):∀ (b:List (PySem.Str × Value)) (m:PySem.Str → Option Value) (x:PySem.Str),x ∉ b.map (·.1) → bindC k b m x = m x
 | [],_,_,_=>rfl
 | (y,v) :: r,m,x,h=>by
  simp only [List.map_cons,List.mem_cons,not_or] at h
  rw [bindC,bindC_skip k r _ x h.2]
  split
  ·rfl
  ·exact if_neg h.1
theorem bindL_at (k:PySem.Str → Option NameKind):∀ (b:List (PySem.Str × Value)) (m:PySem.Str → Option Value) (x:PySem.Str) (v:Value),(b.map (·.1)).Nodup → (x,v) ∈ b → k x = some .local → bindL k b m x = some v
 | (y,u) :: r,m,x,v,nd,h,hk=>by
  rw [List.map_cons,List.nodup_cons] at nd
  rcases List.mem_cons.mp h with e | h
  ·cases e
   rw [bindL,bindL_skip k r _ _ nd.1,if_pos hk]; exact if_pos rfl
  ·rw [bindL]; exact bindL_at k r _ x v nd.2 h hk
theorem bindC_at (k:PySem.Str → Option NameKind):∀ (b:List (PySem.Str × Value)) (m:PySem.Str → Option Value) (x:PySem.Str) (v:Value),(b.map (·.1)).Nodup → (x,v) ∈ b → k x ≠ some .local → bindC k b m x = some v
 | (y,u) :: r,m,x,v,nd,h,hk=>by
  rw [List.map_cons,List.nodup_cons] at nd
  rcases List.mem_cons.mp h with e | h
  ·cases e
   rw [bindC,bindC_skip k r _ _ nd.1,if_neg hk]; exact if_pos rfl
  ·rw [bindC]; exact bindC_at k r _ x v nd.2 h hk
theorem cellsFrom_some:∀ (names:Sc) (k:Nat) (acc:List (PySem.Str × Addr)) (x:PySem.Str),names.lookup x = some .cell ∨ (acc.lookup x).isSome = true → ((cellsFrom k names acc).lookup x).isSome = true
 | [],_,_,_,h=>h.resolve_left (fun z=>by exact no_none z)
 | (y,kd) :: r,k,acc,x,h=>by
  rw [cellsFrom]
  split
  ·refine cellsFrom_some r _ _ x ?_
   cases q:x == y with
   | true=>right; rw [List.lookup_cons,q]; rfl
   | false =>
    rw [List.lookup_cons,q] at h
    rw [List.lookup_cons,q]; exact h
  ·rename_i hkd
   refine cellsFrom_some r _ _ x ?_
   cases q:x == y with
   | true =>
    rw [List.lookup_cons,q] at h
    refine .inr (h.resolve_left fun z=>hkd ?_)
    have:kd = .cell:=by simpa using z
    rw [this]; rfl
   | false=>rw [List.lookup_cons,q] at h; exact h
set_option genCtorIdx false in
structure FnHd (G:Gd) (fn:Fn) (a:Addr) (fd:FuncData) (body:List Stmt):Prop where
 ex:∃ o:Obj,G.K.lookup a = some o ∧ o.data = .func fd ∧ codeIn G.K fd.code fd.qualname = true ∧ fd.body = .stmts body ∧ fd.closure = [] ∧ fd.globals = mainGlobals ∧ fd.builtins = builtinsNs ∧
  fd.scope.kind = .function ∧ fd.scope.isCoroutine = false ∧ fd.scope.isGenerator = false ∧
  (∀ vals:List Value,vals.length = fn.np → bindArgs fd ⟨vals,[]⟩ = pure ((fn.names.take fn.np).zip vals)) ∧ fn.np ≤ fn.names.length ∧ (∀ x ∈ fn.names.take fn.np,kindOk fd.scope.names x = true ∧ x ≠ Str.empty) ∧ (fn.names.take fn.np).Nodup
set_option genCtorIdx false in
structure FnRec (G:Gd) (q:Bool) (PX:Calls → Nat → Prop) (fn:Fn) (a:Addr):Prop where
 ex:∃ (fd:FuncData) (body:List Stmt),FnHd G fn a fd body ∧ ∀ (C:Calls) (n:Nat),PX C n → SimB G C ⟨n,q⟩ fd.scope.names (gam0 fn) n fn.body body
theorem pairwise_lookup {cs:List (PySem.Str × Addr)} (h:cs.Pairwise fun x y=>x.2 ≠ y.2) {n n':PySem.Str} {c:Addr} (h1:cs.lookup n = some c) (h2:cs.lookup n' = some c):n = n':=by
 induction cs with
 | nil=>exact no_none h1
 | cons x r ih =>
  rw [List.pairwise_cons] at h
  rw [List.lookup_cons] at h1 h2
  cases q1:n == x.1 <;> cases q2:n' == x.1 <;> rw [q1] at h1 <;> rw [q2] at h2
  ·exact ih h.2 h1 h2
  ·cases h2; exact absurd rfl (h.1 (n,x.2) (PySem.mem_of_lookup (n:=n) h1))
  ·cases h1; exact absurd rfl (h.1 (n',x.2) (PySem.mem_of_lookup (n:=n') h2))
  ·rw [beq_iff_eq] at q1 q2; rw [q1,q2]
set_option backward.match.sparseCases true in
theorem entry_at (O:G.Ok N) {fn:Fn} {a:Addr} {q:Bool} {fd:FuncData} {body:List Stmt} (hfn:FnHd G fn a fd body) (hA:AC ⟨n + 1,q⟩ A) {Vs:List V} {vals:List Value} (K:Stk A t s.heap) (R:Rel G t st s) (r:VRels t s.heap Vs vals) (hnp:Vs.length = fn.np)
  {B:Result → Shared → Prop}
  (k:∀ (env:Env) (s₁:Shared),env.scope.names = fd.scope.names → env.frame = some env.locals → (∀ b,own env b → s.heap.get? b = none) → (∀ b o,s.heap.get? b = some o → s₁.heap.get? b = some o) → s₁.gens = s.gens → s₁.os = s.os → AOk ⟨n,q⟩ (A.deeper env) →
   FrOk G (A.deeper env) (t.hideS (own env) (env :: t.st)) env (gam0 fn) (Vs.map some ++ List.replicate (fn.names.length - fn.np) none) s₁ → Rel G (t.hideS (own env) (env :: t.st)) st s₁ →
   wpAny G.M (A.deeper env) (execs body env) (fun f s'=>B (.ok (.ret (match f with | .ret v=>v | _=>.none))) s') (fun e s'=>wpAny G.M (A.deeper env) (leaving env e) (fun _ s''=>B (.error e) s'') (fun e' s''=>B (.error e') s'') s') s₁) :
  codeAny G.M A (.call (.ref a) ⟨vals,[]⟩) B s:=by
 obtain ⟨o,h1,h2,h3,h4,h5,h6,h7,h8,h9,h10,h11,h12,h13,h14⟩:=hfn.ex
 have XK:=O.K.keeps R.base
 have hlv:vals.length = fn.np:=by rw [r.length]; exact hnp
 have hbn:((fn.names.take fn.np).zip vals).map (·.1) = fn.names.take fn.np:=by
  rw [List.map_fst_zip]; rw [List.length_take,hlv]; exact Nat.min_le_left _ _
 have hkx:∀ x ∈ (fn.names.take fn.np).zip vals,x.1 ∈ fn.names.take fn.np:=fun x hx=>(List.of_mem_zip (a:=x.1) (b:=x.2) hx).1
 refine codeAny_call_cells (body:=body) (binds:=(fn.names.take fn.np).zip vals) (by have:=hA.dep; lia) (XK _ _ h1) h2 (O.lim.keeps R.base) (codeRec_of XK h3) h4 (h11 vals hlv) h5 (fun x hx=>?_) (fun s₁ x=>?_) h9 h10 h8
 ·have hk:=(h13 x.1 (hkx x hx)).1
  simp only [kindOk,Bool.or_eq_true,beq_iff_eq] at hk
  rcases hk with hk | hk
  ·exact .inl hk
  ·exact .inr ⟨hk,cellsFrom_some _ _ _ _ (.inl hk)⟩
 ·let env:=callEnvC fd s.heap.objs.size a
  have hcells:env.cells = cellsFrom (s.heap.objs.size + 1) fd.scope.names []:=rfl
  have hloc:env.locals = s.heap.objs.size:=rfl
  obtain ⟨h',tk,hs,hk'⟩:=x.done
  let P:Addr → Prop:=own env
  have np:∀ b,P b → s.heap.get? b = none:=by
   rintro b (rfl | ⟨nm,q⟩)
   ·exact size_none _
   ·have hlt:=x.above nm b (PySem.mem_of_lookup q)
    cases z:s.heap.get? b with
    | none=>rfl
    | some ob=>exact absurd (Heap.lt_size z) (Nat.not_lt.mpr (Nat.le_of_lt hlt))
  have hk0:∀ b o,s.heap.get? b = some o → s₁.heap.get? b = some o:=x.toInCall.keep
  have hg:s₁.gens = s.gens:=by rw [hs]
  have ho:s₁.os = s.os:=by rw [hs]
  have hlP:∀ b,P b → (s₁.heap.get? b).isSome = true:=by
   rintro b (rfl | ⟨nm,q⟩)
   ·obtain ⟨ob,_,_,z,_⟩:=x.toInCall.ns; rw [z]; rfl
   ·obtain ⟨ob,z,_⟩:=x.cell nm b q; rw [z]; rfl
  have R0:Rel G (t.hideS P (env :: t.st)) st s₁:=R.hideGrow np hk0 hlP hg ho
  have SG:Step noX (t.hideS P (env :: t.st)) (t.hideS P (env :: t.st)) s s₁:=⟨.refl _,fun a o e _ _ _=>hk0 a o e,fun a o e _ _ _=>⟨o.slots,hk0 a o e⟩,fun _ o=>.inl o,fun a o e=>by rw [hk0 a o e]; rfl,hg,ho⟩
  have hkind:∀ y,env.kindOf y = fd.scope.names.lookup y:=fun _=>rfl
  have K0:Stk (A.deeper env) (t.hideS P (env :: t.st)) s₁.heap:=by
   refine ⟨Around.frames_deeper K.fr,fun e he=>?_⟩
   rcases List.mem_cons.1 he with rfl | he
   ·obtain ⟨ob,es,ep,z1,z2,_⟩:=x.toInCall.ns
    exact ⟨by show fd.scope.kind ≠ _; rw [h8]; decide,_,ob,rfl,.inr (.inl rfl),z1,fun vs z=>by rw [z2] at z; cases z⟩
   ·obtain ⟨q1,L,o,q2,q3,q4,q5⟩:=K.ob e he
    exact ⟨q1,L,o,q2,.inl q3,hk0 _ _ q4,q5⟩
  have F0:FrOk G (A.deeper env) (t.hideS P (env :: t.st)) env (gam0 fn) (Vs.map some ++ List.replicate (fn.names.length - fn.np) none) s₁:=by
   refine ⟨K0,h8,h6,h7,.inr (.inl rfl),fun nm c q=>.inr (.inr ⟨nm,q⟩),fun nm nm' c q q'=>pairwise_lookup x.apart q q',_,_,x.toInCall.ns,x.cell,fun y hy=>cellsFrom_some _ _ _ _ (.inl hy),fun i y Y e1 e2=>?_⟩
   have hi:i < Vs.length:=by
    by_cases q:i < Vs.length
    ·exact q
    ·rw [List.getElem?_append_right (by rw [List.length_map]; lia)] at e2
     rw [List.getElem?_replicate] at e2
     split at e2 <;> cases e2
   rw [List.getElem?_append_left (by rw [List.length_map]; exact hi),List.getElem?_map] at e2
   obtain ⟨Y',e3,e4⟩:=Option.map_eq_some_iff.mp e2
   cases e4
   obtain ⟨u,u1,u2⟩:=VRels.get r e3
   simp only [gam0,List.getElem?_map,Option.map_eq_some_iff] at e1
   obtain ⟨y',e5,e6⟩:=e1
   have hy:y' = y:=by split at e6 <;> cases e6; rfl
   subst hy
   have e7:(fn.names.take fn.np)[i]? = some y':=by rw [List.getElem?_take,if_pos (by lia)]; exact e5
   have hm:(y',u) ∈ (fn.names.take fn.np).zip vals:=by
    refine List.mem_iff_getElem?.mpr ⟨i,?_⟩
    rw [List.getElem?_zip_eq_some]; exact ⟨e7,u1⟩
   have hko:=(h13 y' (List.mem_iff_getElem?.mpr ⟨i,e7⟩)).1
   simp only [kindOk,Bool.or_eq_true,beq_iff_eq] at hko
   refine ⟨u,VRel.step SG (fun _ z=>z.elim) _ (VRel.hide np _ u2),?_⟩
   rcases hko with hko | hko
   ·exact .inl ⟨hko,bindL_at _ _ _ _ _ (by rw [hbn]; exact h14) hm hko⟩
   ·exact .inr ⟨hko,bindC_at _ _ _ _ _ (by rw [hbn]; exact h14) hm (by rw [hkind,hko]; decide)⟩
  have hA':AOk ⟨n,q⟩ (A.deeper env):=⟨hA.hd,by have h:A.depth + 2 * (n + 1) + 5 ≤ recursionLimit:=hA.dep; show (A.deeper env).depth + 2 * n + 6 ≤ _; rw [depth_deeper]; lia,by have h:A.units + 20 * (n + 1) + 105 ≤ cLine:=hA.un; show (A.deeper env).units + 20 * n + 110 ≤ _; rw [units_deeper]; lia⟩
  exact k env s₁ rfl rfl np hk0 hg ho hA' F0 R0
theorem entry_go (O:G.Ok N) {fn:Fn} {a:Addr} {q:Bool} {PX:Calls → Nat → Prop} (hfn:FnRec G q PX fn a) (px:PX C n) (hA:AC ⟨n + 1,q⟩ A) {Vs:List V} {vals:List Value} (K:Stk A t s.heap) (R:Rel G t st s) (r:VRels t s.heap Vs vals) (hnp:Vs.length = fn.np)
  {p:Fl × Loc} (e:exs G.P C n fn.body (Vs.map some ++ List.replicate (fn.names.length - fn.np) none) st = .ok p st') {B:Result → Shared → Prop}
  (k:∀ v t' s',Step noX t t' s s' → Rel G t' st' s' → VRel t' s'.heap (match p.1 with | .ret v=>v | .next=>.none) v → B (.ok (.ret v)) s') :
  codeAny G.M A (.call (.ref a) ⟨vals,[]⟩) B s:=by
 obtain ⟨fd,body,hd,h15⟩:=hfn.ex
 refine entry_at O hd hA K R r hnp fun env s₁ hs hf np hk0 hg ho hA' F0 R0=>?_
 refine h15 C n px (t.hideS (own env) (env :: t.st)) st s₁ env _ p.1 p.2 st' (A.deeper env) hA' ⟨_,Around.frames_deeper K.fr,hf⟩ hs F0 R0 e _ _ fun f t' s' S' R' F' rf=>?_
 have hpv:t'.pv = (t.hideS (own env) (env :: t.st)).pv:=S'.le.pv
 have nP:∀ b,t.pv b → ¬ own env b:=fun b q z=>by
  have:=R.live b (.inr q)
  rw [np b z] at this; exact no_ft this
 have Fg:Forget (own env) noX t' { t' with pv:=t.pv,st:=t.st } s' s' :=
  ⟨rfl,rfl,fun b q=>⟨by rw [hpv]; exact .inl q,nP b q⟩,fun b q=>by rw [hpv]; exact .inr q,fun b z=>z.elim,fun _ _ _ _ e=>e,rfl,rfl,rfl⟩
 have S'':=Step.unhideS (t:=t) (L:=noX) (l:=env :: t.st) (fun e he=>(List.mem_cons.1 he).elim (fun z=>.inr fun b q=>by rw [z,hf] at q; cases q; exact .inl rfl) .inl) (fun e he=>List.mem_cons_of_mem _ he) (fun b q=>.inl q) np hk0 hg ho S' Fg
 cases hp:p.1 with
 | next =>
  rw [hp] at rf
  have rf:f = .next:=rf
  subst rf
  exact k _ _ _ S'' (R'.forget Fg) (by rw [hp]; rfl)
 | ret X =>
  rw [hp] at rf
  obtain ⟨u,rfl,ru⟩:=rf
  exact k _ _ _ S'' (R'.forget Fg) (by rw [hp]; exact VRel.forget Fg _ ru)
end
end Mine
end
section
set_option maxRecDepth 100000
namespace Mine
open PySem PySem.W PyProof.Rows
section
variable {G:Gd} {N:Names} {C:Calls} {d:Dp} {sc:Sc} {Γ:Gam} {A:Around} {t:Tie} {st st':MS} {s:Shared} {env:Env} {loc:Loc} {X Y Z:V} {v w:Value}
theorem sim_dictC (O:G.Ok N) {kd:Nat} {a:E} {x:PySem.Expr} {np pos:Pos} (hg:glob sc "dict" = true) (hx:isStarred x = false) (ha:SimE G C d sc Γ a x) :
  SimE G C d sc Γ (.dictC kd a) (.Call (.Name "dict" np) [x] [] pos):=by
 intro t st s env loc X st' A hA hsc F R e Q E k
 rw [ev_dictC] at e
 obtain ⟨V,s1,e1,e⟩:=Res.bind_ok e
 cases V with
 | ref r =>
  have e:(match s1.heap r with | some (.dict d)=>if d.length ≤ 1000 then Res.ok (V.ref (kd,s1.cnt kd)) (s1.new kd (.dict d)) else .stuck | _=>.stuck) = .ok X st':=e
  cases hr:s1.heap r with
  | none=>rw [hr] at e; exact no_stuck e
  | some o =>
   rw [hr] at e
   cases o with
   | dict dd =>
    obtain ⟨hz,rfl,rfl⟩:=ite_ok e
    refine wpAny_Call_ofName (built_glob (v:=.type "dict") O F R hsc hg (by decide) (by decide +kernel) ?_)
    have e1':evL G.P C [a] loc st = .ok [.ref r] s1:=by simp [evL_nil,evL_cons,e1,Res.bind]
    refine with_go O (keeps_t _) (l:=[a]) (m:=[x]) (by simp [plainArgs,hx]) rfl (sim_es_cons hx ha sim_es_nil) hA hsc F R e1' fun vs t1 σ1 S1 R1 r1=>?_
    obtain ⟨v,_,rfl,⟨b,rfl,hb⟩,rfl⟩:=r1
    obtain ⟨b',kvs,h1,h2,h3⟩:=R1.objs r _ hr
    obtain rfl:b' = b:=by rw [hb] at h1; cases h1; rfl
    refine kt_call_dict (knd:=strKind G.prog G.w) (beq_eq_false_iff_ne.2 fun z=>R1.sys r (z ▸ h1)) h2 ?_ fun h' hd hs=>?_
    ·rw [h3.length]; exact Nat.le_trans hz (by decide)
    have hk:∀ c o,σ1.heap.get? c = some o → h'.get? c = some o:=fun c o e=>(hs.2 c (fun (z:c = _)=>by rw [z,size_none] at e; exact no_none e)).trans (Heap.get?_push_of_some _ e)
    have S:=Step.bind (k:=kd) (d:=none) (s':={ σ1 with heap:=h' }) R1 hk rfl rfl (size_none _) (fun x e=>by exact no_none e)
    have rho:(t1.bind (kd,s1.cnt kd) σ1.heap.objs.size none).ρ (kd,s1.cnt kd) = some σ1.heap.objs.size:=if_pos rfl
    refine k _ _ _ (S1.trans S) (Rel.bind R1 hk rfl rfl (size_none _) (fun x e=>by exact no_none e) ?_ (R1.size_sys O) ⟨_,kvs,rho,hd,DRel.step S (fun _ q=>q.elim) h3⟩) ⟨_,rfl,rho⟩
    obtain ⟨o,es,ep,ho,_⟩:=hd
    show (Heap.get? h' _).isSome = true
    rw [ho]; rfl
   | _=>exact no_stuck e
 | _=>exact no_stuck e
theorem pairs_go {pos:Pos}:∀ {ks:List (List Nat)} {l:List E} {m:List PySem.Expr} {kx:List (Option PySem.Expr)},SimL G C d sc Γ l m → ks.length = l.length → (∀ i:Nat,∀ x,kx[i]? = some x → ∃ y k p,ks[i]? = some y ∧ x = some (.Constant (.str (toStr y)) k p)) → kx.length = ks.length →
  ∃ pairs:List (Sem Value × Sem Value),(evalEachOpt kx env).zip ((evalEach m env).map fun v=>do let x ← v; standAt pos; pure x) = (pairs.map fun p=>(some p.1,p.2)) ∧ pairs.length = ks.length ∧
   ∀ t st s loc Xs st' A,AOk d A → env.scope.names = sc → FrOk G A t env Γ loc s → Rel G t st s → evL G.P C l loc st = .ok Xs st' →
    Sim G A t s (evalPairs pairs) st' (fun t' s' vs=>∃ kvs,Carries (strKind G.prog G.w) vs kvs ∧ DRel t' s'.heap ((ks.zip Xs).map fun p=>(.str p.1,p.2)) kvs ∧ kvs.map (·.1) = ks.map toStr)
 | [],[],_,[],.nil,_,_,_=>⟨[],rfl,rfl,fun t st s loc Xs st' A hA hsc F R e Q E k=>by
   cases e
   exact evalPairs_nil (k [] t s (.refl _ _ _) R ⟨[],trivial,rfl,rfl⟩)⟩
 | [],_ :: _,_,_,_,hl,_,_=>by cases hl
 | _ :: _,[],_,_,_,hl,_,_=>by cases hl
 | [],[],_,_ :: _,_,_,_,hl=>by cases hl
 | _ :: _,_,_,[],_,_,_,hl=>by cases hl
 | y :: ks,e0 :: l,_,x0 :: kx,.cons (x:=x1) (m:=m) he _ r,hl,hx,hl2=>by
  obtain ⟨y',k,p,hy,rfl⟩:=hx 0 x0 rfl
  cases hy
  obtain ⟨pairs,h1,h2,h3⟩:=pairs_go (pos:=pos) (ks:=ks) (kx:=kx) r (Nat.succ.inj hl) (fun i x hi=>hx (i + 1) x hi) (Nat.succ.inj hl2)
  refine ⟨(eval (.Constant (.str (toStr y)) k p) env,do let v ← eval x1 env; standAt pos; pure v) :: pairs,?_,congrArg Nat.succ h2,fun t st s loc Xs st' A hA hsc F R e Q E q=>?_⟩
  ·show (_,_) :: ((evalEachOpt kx env).zip ((evalEach m env).map _)) = _
   rw [h1]; rfl
  ·rw [evL_cons] at e
   obtain ⟨X1,s1,e1,e⟩:=Res.bind_ok e
   obtain ⟨X2,s2,e2,e⟩:=Res.bind_ok e
   obtain ⟨rfl,rfl⟩:Xs = X1 :: X2 ∧ s2 = st':=by cases e; exact ⟨rfl,rfl⟩
   refine evalPairs_cons (wpAny_Constant_str (wpAny_bind (he t st _ env loc X1 s1 A hA hsc (F.step R (Step.toks _ _ _ _)) (R.toks _) e1 _ _ fun v t1 σ1 S1 R1 r1=>wpAny_bind (wpAny_standAt (wpAny_pure ?_)))))
   have S01:=(Step.toks noX t s _).trans S1
   refine h3 t1 s1 σ1 loc X2 s2 A hA hsc (F.step R S01) R1 e2 _ _ fun vs t2 σ2 S2 R2 ⟨kvs,c1,c2,c3⟩=>?_
   exact q _ t2 σ2 (S01.trans S2) R2 ⟨(toStr y,v) :: kvs,⟨strKind_is _ _ _ _,rfl,c1⟩,⟨y,v,kvs,rfl,rfl,VRel.step S2 (fun _ z=>z.elim) _ r1,c2⟩,by rw [List.map_cons,List.map_cons,c3]⟩
theorem sim_dictM (O:G.Ok N) {kd:Nat} {ks:List (List Nat)} {l:List E} {m:List PySem.Expr} {kx:List (Option PySem.Expr)} {pos:Pos} (h:SimL G C d sc Γ l m) (h0:ks ≠ []) (hl:ks.length = l.length) (hx:∀ i:Nat,∀ x,kx[i]? = some x → ∃ y k p,ks[i]? = some y ∧ x = some (.Constant (.str (toStr y)) k p)) (hl2:kx.length = ks.length) :
  SimE G C d sc Γ (.dictM kd ks l) (.Dict kx m pos):=by
 intro t st s env loc X st' A hA hsc F R e Q E k
 rw [ev_dictM] at e
 obtain ⟨Xs,s1,e1,e⟩:=Res.bind_ok e
 obtain ⟨⟨q1,q2,q3⟩,rfl,rfl⟩:=ite_ok e
 obtain ⟨pairs,p1,p2,p3⟩:=pairs_go (env:=env) (pos:=pos) (kx:=kx) h hl hx hl2
 let D:=s.heap.objs.size
 let P:Addr → Prop:=fun a=>a = D
 have np:∀ a,P a → s.heap.get? a = none:=fun a z=>by rw [show a = D from z]; exact size_none _
 have hk:∀ b o,s.heap.get? b = some o → (s.heap.push ({ cls:=.type "dict",data:=.dict #[] }:Obj)).get? b = some o:=fun _ _ e=>Heap.get?_push_of_some _ e
 have hlD:∀ a,P a → ((s.heap.push ({ cls:=.type "dict",data:=.dict #[] }:Obj)).get? a).isSome = true:=fun a z=>by rw [show a = D from z,Heap.get?_push_size _ rfl]; rfl
 have R0:Rel G (t.hide P) st { s with heap:=s.heap.push { cls:=.type "dict",data:=.dict #[] } }:=R.hideGrow np hk hlD rfl rfl
 have F0:FrOk G A (t.hide P) env Γ loc { s with heap:=s.heap.push { cls:=.type "dict",data:=.dict #[] } }:=F.hideGrow np hk rfl rfl
 refine wpAny_Dict_pairs (knd:=strKind G.prog G.w) p1 (fun z=>h0 (List.length_eq_zero_iff.1 (by rw [← p2,z]; rfl))) (by rw [p2]; exact q2) ?_
 refine p3 _ st _ loc Xs _ A hA hsc F0 R0 e1 _ _ fun vs τ σ1 S R1 ⟨kvs,c1,c2,c3⟩=>?_
 have pD:τ.pv D:=by rw [S.le.pv]; exact .inr rfl
 have hnew:Heap.DictOf (strKind G.prog G.w) (s.heap.push ({ cls:=.type "dict",data:=.dict #[] }:Obj)) D []:=Heap.DictOf.new _
 have nD:¬ (t.hide P).Own D:=fun q=>R0.pv D (.inr rfl) q
 have hd1:σ1.heap.DictOf (strKind G.prog G.w) D []:=let ⟨o,es,ep,ho,r⟩:=hnew; ⟨o,es,ep,S.keep _ _ ho nD (fun z=>z) (F.sk.fresh (np D rfl)),r⟩
 refine ⟨kvs,c1,hd1,fun h' hd hs=>?_⟩
 have hn:(kvs.map (·.1)).Nodup:=by
  rw [c3]
  refine List.pairwise_map.2 (q3.imp fun hne z=>hne ?_)
  exact toStr_inj z
 rw [merged_nil_of_nodup kvs hn] at hd
 have hl':(h'.get? D).isSome = true:=by obtain ⟨o,es,ep,ho,_⟩:=hd; rw [ho]; rfl
 have Sp:Step P τ τ σ1 { σ1 with heap:=h',toks:=σ1.toks + vs.length }:=Step.priv rfl hl' hs
 have xp:∀ a,P a → τ.pv a:=fun a z=>by rw [show a = D from z]; exact pD
 obtain ⟨t2,S2,R2,r2,-,-⟩:=end_own (L:=noX) (se:={ σ1 with heap:=h',toks:=σ1.toks + vs.length }) (P:=P) (D:=D) (k:=kd) (o:=.dict ((ks.zip Xs).map fun p=>(.str p.1,p.2))) (s0:={ s with heap:=s.heap.push { cls:=.type "dict",data:=.dict #[] } }) R np rfl hk rfl rfl ((S.mono fun _ z=>z.elim).trans Sp) (R1.priv pD hl' hs) (fun a z=>z.elim) (fun b o _ _ e=>e) rfl rfl (R.size_sys O)
  fun t2 up hr=>⟨D,kvs,hr,hd,DRel.map (fun x {v} r=>up x v r) (DRel.step Sp xp c2)⟩
 exact k _ t2 _ S2 R2 r2
theorem sim_dictA (O:G.Ok N) {kd:Nat} {ks:List (List Nat)} {l:List E} {m:List PySem.Expr} {kx:List (Option PySem.Expr)} {pos:Pos} (h:SimL G C d sc Γ l m) (hl:ks.length = l.length) (hx:∀ i:Nat,∀ x,kx[i]? = some x → ∃ y k p,ks[i]? = some y ∧ x = some (.Constant (.str (toStr y)) k p)) (hl2:kx.length = ks.length) :
  SimE G C d sc Γ (.dictM kd ks l) (.Dict kx m pos):=by
 cases ks with
 | cons k ks=>exact sim_dictM O h nofun hl hx hl2
 | nil =>
  cases List.length_eq_zero_iff.1 hl2
  cases l with
  | cons=>cases hl
  | nil=>cases h; exact sim_dict0 O
end
end Mine
end
section
set_option maxRecDepth 100000
namespace Mine
open PySem PySem.W PyProof.Rows
noncomputable def kasChk (n:Nat) (ans:Nat → Nat → Bool) (want:List Nat):KasT (Array Nat) → Bool
 | .ret a=>a.toList == want
 | .ask i j k=>decide (i < n) && (decide (j < n) && (decide (i ≠ j) && kasChk n ans want (k (ans i j))))
theorem kas_of {n:Nat} {ans:Nat → Nat → Bool} {want:List Nat} {cmp:Nat → Nat → (Bool → Shared → Prop) → Shared → Prop} {s:Shared} {Q:Array Nat → Shared → Prop} (hc:∀ i j,i < n → j < n → i ≠ j → ∀ C:Bool → Shared → Prop,C (ans i j) s → cmp i j C s) (hQ:∀ a:Array Nat,a.toList = want → Q a s) :
  ∀ t:KasT (Array Nat),kasChk n ans want t = true → t.kasWp cmp Q s
 | .ret a,h=>hQ a (eq_of_beq (h:(a.toList == want) = true))
 | .ask i j k,h=>by
  obtain ⟨h1,h⟩:=Bool.and_eq_true_iff.1 (h:(decide (i < n) && (decide (j < n) && (decide (i ≠ j) && kasChk n ans want (k (ans i j))))) = true)
  obtain ⟨h2,h⟩:=Bool.and_eq_true_iff.1 h
  obtain ⟨h3,h⟩:=Bool.and_eq_true_iff.1 h
  exact hc i j (of_decide_eq_true h1) (of_decide_eq_true h2) (of_decide_eq_true h3) _ (kas_of hc hQ (k (ans i j)) h)
noncomputable def tbl (m pos i j:Nat):Bool:=if i < m then (if j < m then decide (i < j) else decide (i < pos)) else decide (pos ≤ j)
theorem tbl_ok:∀ m:Fin 5,∀ pos:Fin (m.1 + 2),kasChk (m.1 + 2) (tbl (m.1 + 1) pos.1) (wantL (m.1 + 1) pos.1) (kas_sort (m.1 + 2)) = true:=by decide +kernel
section
variable {prog:Program} {w:World} {A:Around} {E:Value → Shared → Prop} {s:Shared}
set_option backward.match.sparseCases true in
theorem sort_go {a:Addr} {vs out:List Value} {n:Nat} {P:PySem.Fin → Shared → Prop} (ho:s.heap.get? a = some (seqObj "list" vs.toArray n)) (h64:vs.length < 64) (hlen:out.length = vs.length) (h1:vs.length < 2 → out = vs)
  (h2:2 ≤ vs.length → ∀ s':Shared,(∀ b o,b ≠ a → s.heap.get? b = some o → s'.heap.get? b = some o) → wpAny (model prog w) A (keyKind' vs.toArray) (fun κ s2=>(kas_sort vs.length).kasWp (kas_ask prog w A κ vs) (fun p s3=>s3 = s' ∧ (p.toList.map fun i=>vs.getD i Value.none) = out) s2) E s')
  (k:∀ h' c,(∀ b o,b ≠ a → s.heap.get? b = some o → h'.get? b = some o) → h'.get? a = some (seqObj "list" out.toArray c) → P (.done (.ret .none)) { s with heap:=h' }) :
  wpAny (model prog w) A (Builtin.«list.sort» ⟨[.ref a],[]⟩) P E s:=by
 have ha:a < s.heap.objs.size:=Heap.lt_size ho
 obtain ⟨e1,ho1⟩:∃ e1,(s.heap.update a (Obj.mapSeq fun _=>(#[]:Array Value))).get? a = some (seqObj "list" #[] e1):=⟨_,get?_update_seq ho fun _=>#[]⟩
 rw [list_sort_plain]
 refine wpAny_bind (listItems_at ho rfl ?_)
 refine wpAny_bind (listUpdate_at ho rfl ?_ (by rw [List.size_toArray,sizeLine_eq]; lia) (Nat.zero_le _))
 refine wpAny_bind (seqEpoch_at ho1 rfl ?_)
 refine wpAny_bind (wpAny_newTuple ?_ (by show vs.length ≤ _; rw [sizeLine_eq]; lia))
 refine wpAny_bind (wpAny_newList ?_ (Nat.zero_le _))
 refine wpAny_holding ?_
 have kp:∀ b o,(s.heap.update a (Obj.mapSeq fun _=>(#[]:Array Value))).get? b = some o → (((s.heap.update a (Obj.mapSeq fun _=>(#[]:Array Value))).push (seqObj "tuple" vs.toArray 0)).push (seqObj "list" #[] 0)).get? b = some o:=fun b o e=>Heap.get?_push_of_some _ (Heap.get?_push_of_some _ e)
 have old:∀ b o,b ≠ a → s.heap.get? b = some o → (((s.heap.update a (Obj.mapSeq fun _=>(#[]:Array Value))).push (seqObj "tuple" vs.toArray 0)).push (seqObj "list" #[] 0)).get? b = some o:=fun b o nb e=>kp b o ((Heap.SameBut.update s.heap a _).2 b nb |>.trans e)
 have ho6:=kp a _ ho1
 show wpAny (model prog w) A _ P E { s with heap:=((s.heap.update a (Obj.mapSeq fun _=>(#[]:Array Value))).push (seqObj "tuple" vs.toArray 0)).push (seqObj "list" #[] 0) }
 generalize ((s.heap.update a (Obj.mapSeq fun _=>(#[]:Array Value))).push (seqObj "tuple" vs.toArray 0)).push (seqObj "list" #[] 0) = H at old ho6
 dsimp only
 have hend:∀ {st:SortSt},(arrOf st).map (·.2) = out.toArray → failedOf st = none → wpAny (model prog w) A (do
   let touched:=(← seqEpoch a) != e1
   Builtin.List.listUpdate (.ref a) fun _=>(arrOf st).map (·.2)
   if let some e:=failedOf st then rule "list.sort.comparison-raised"; throw e
   if touched then rule "list.sort.modified"; raiseError "ValueError" "list modified during sort"
   ret .none) P E { s with heap:=H }:=by
  intro st hs hf
  refine wpAny_bind (seqEpoch_at ho6 rfl ?_)
  obtain ⟨c,hc⟩:∃ c,(H.update a (Obj.mapSeq fun _=>out.toArray)).get? a = some (seqObj "list" out.toArray c):=⟨_,get?_update_seq ho6 fun _=>out.toArray⟩
  rw [hs,hf]
  refine wpAny_bind (listUpdate_at ho6 rfl ?_ (Nat.zero_le _) (by rw [List.size_toArray,hlen,sizeLine_eq]; lia))
  simp only [bne_self_eq_false,Bool.false_eq_true,if_false]
  exact wpAny_pure (k _ c (fun b o nb e=>((Heap.SameBut.update H a _).2 b nb).trans (old b o nb e)) hc)
 by_cases hn:vs.toArray.size < 2
 ·rw [if_pos hn,if_pos hn]
  refine wpAny_bind (wpAny_pure ?_)
  rw [StateT.run_pure]
  refine wpAny_bind (wpAny_pure (hend ?_ rfl))
  show ((vs.toArray.zip vs.toArray).map (·.2)) = out.toArray
  rw [h1 (by rw [List.size_toArray] at hn; exact hn)]
  apply Array.toList_inj.mp
  simp only [Array.toList_map,Array.toList_zip]
  exact List.map_snd_zip (Nat.le_refl _)
 ·rw [if_neg hn,if_neg hn]
  rw [List.size_toArray] at hn
  refine wpAny_bind (wpAny_mono (h2 (by lia) { s with heap:=H } old) (fun κ s0 hk=>?_) fun _ _ x=>x)
  refine wpAny_bind (wpAny_mono (kat_run (Q:=fun st' s'=>s' = { s with heap:=H } ∧ (arrOf st').map (·.2) = out.toArray ∧ failedOf st' = none) rfl (by lia) h64 (fun p' st' s' a1 a2 a3 a4=>⟨a4.1,by rw [kat_snds rfl a2,a4.2],a3⟩) hk) ?_ fun _ _ e=>e)
  rintro ⟨⟨⟩,st'⟩ s' ⟨rfl,hs,hf⟩
  exact hend hs hf
theorem sorted_go {l:Addr} {vs out:List Value} {Q:Value → Shared → Prop} (hl:s.heap.IsList l vs.toArray) (h64:vs.length < 64) (hlen:out.length = vs.length) (h1:vs.length < 2 → out = vs)
  (h2:2 ≤ vs.length → ∀ (A':Around) (s':Shared) (E':Value → Shared → Prop),(∀ b o,s.heap.get? b = some o → s'.heap.get? b = some o) → wpAny (model prog w) A' (keyKind' vs.toArray) (fun κ s2=>(kas_sort vs.length).kasWp (kas_ask prog w A' κ vs) (fun p s3=>s3 = s' ∧ (p.toList.map fun i=>vs.getD i Value.none) = out) s2) E' s')
  (k:∀ h' c,(∀ b o,s.heap.get? b = some o → h'.get? b = some o) → h'.get? (s.heap.objs.size + 1) = some (seqObj "list" out.toArray c) → Q (.ref (s.heap.objs.size + 1)) { s with heap:=h' }) :
  wpAny (model prog w) A (call (.builtin "sorted") [.ref l]) Q E s:=by
 refine Calls.call_function_entry kind_sorted plain_sorted entry_sorted (args_sorted1 _) ?_
 unfold Builtin.«sorted»
 refine wpAny_bind (m:=checkCount "sorted" 1 1 _) (wpAny_pure ?_)
 refine wpAny_bind (collect_list hl ?_ (by rw [sizeLine_eq]; lia))
 refine wpAny_bind (wpAny_newList ?_ (by rw [sizeLine_eq]; lia))
 have hsz:((s.heap.push (seqObj "list" #[] 0)).update s.heap.objs.size (Obj.mapSeq (· ++ vs.toArray))).objs.size = s.heap.objs.size + 1:=by
  rw [Heap.size_update,size_push']
 have hoL:(((s.heap.push (seqObj "list" #[] 0)).update s.heap.objs.size (Obj.mapSeq (· ++ vs.toArray))).push (seqObj "list" vs.toArray 0)).get? (s.heap.objs.size + 1) = some (seqObj "list" vs.toArray 0):=by
  rw [← hsz]; exact Heap.get?_push_size _ rfl
 have keep:∀ b o,s.heap.get? b = some o → (((s.heap.push (seqObj "list" #[] 0)).update s.heap.objs.size (Obj.mapSeq (· ++ vs.toArray))).push (seqObj "list" vs.toArray 0)).get? b = some o:=fun b o q=>by
  have hlt:b < s.heap.objs.size:=Heap.lt_size q
  rw [Heap.get?_push_ne _ _ _ (by rw [hsz]; exact Nat.ne_of_lt (Nat.lt_succ_of_lt hlt)),Heap.get?_update_ne _ _ _ _ (Nat.ne_of_lt hlt),Heap.get?_push_ne _ _ _ (Nat.ne_of_lt hlt)]
  exact q
 show wpAny _ _ _ _ _ { s with heap:=((s.heap.push (seqObj "list" #[] 0)).update s.heap.objs.size (Obj.mapSeq (· ++ vs.toArray))).push (seqObj "list" vs.toArray 0) }
 rw [hsz]
 have up:∀ (h':Heap),(∀ b o,b ≠ s.heap.objs.size + 1 → (((s.heap.push (seqObj "list" #[] 0)).update s.heap.objs.size (Obj.mapSeq (· ++ vs.toArray))).push (seqObj "list" vs.toArray 0)).get? b = some o → h'.get? b = some o) → ∀ b o,s.heap.get? b = some o → h'.get? b = some o:=fun h' q b o e=>q b o (Nat.ne_of_lt (Nat.lt_succ_of_lt (Heap.lt_size e))) (keep b o e)
 refine wpAny_bind (wpAny_holding (wpAny_call_entry slot_list_sort ⟨_,hoL,rfl⟩ entry_list_sort ?_ (args_list_sort _)))
 refine sort_go (s:={ s with heap:=((s.heap.push (seqObj "list" #[] 0)).update s.heap.objs.size (Obj.mapSeq (· ++ vs.toArray))).push (seqObj "list" vs.toArray 0) }) hoL h64 hlen h1 (fun hn s' q=>h2 hn _ s' _ (up s'.heap q)) fun h' c q ho=>?_
 exact ⟨_,rfl,wpAny_pure ⟨_,rfl,k h' c (up h' q) ho⟩⟩
end
theorem rising_at:∀ {ks:List Int},rising ks = true → ∀ i j:Nat,i < j → ∀ a b,ks[i]? = some a → ks[j]? = some b → a < b
 | [],_,i,j,_,a,b,e,_=>by exact no_none e
 | [_],_,i,j,hij,a,b,_,e=>by
  cases j with
  | zero=>lia
  | succ j=>exact no_none e
 | x :: y :: r,h,i,j,hij,a,b,e1,e2=>by
  obtain ⟨h1,h2⟩:=Bool.and_eq_true_iff.1 (h:(decide (x < y) && rising (y :: r)) = true)
  have h1:x < y:=of_decide_eq_true h1
  cases j with
  | zero=>lia
  | succ j =>
   cases i with
   | succ i=>exact rising_at h2 i j (by lia) a b e1 e2
   | zero =>
    cases e1
    cases j with
    | zero=>cases e2; exact h1
    | succ j=>exact Int.lt_trans h1 (rising_at h2 0 (j + 1) (by lia) y b rfl e2)
theorem pos_at (x:Int):∀ {ks:List Int},rising ks = true → x ∉ ks → posOf x ks ≤ ks.length ∧ ∀ (i:Nat) (a:Int),ks[i]? = some a → (i < posOf x ks → a < x) ∧ (posOf x ks ≤ i → x < a)
 | [],_,_=>⟨Nat.le_refl _,fun i a e=>by cases e⟩
 | k :: r,h,hx=>by
  have hr:rising r = true:=by
   cases r with
   | nil=>rfl
   | cons y r=>exact (Bool.and_eq_true_iff.1 (h:(decide (k < y) && rising (y :: r)) = true)).2
  obtain ⟨h1,h2⟩:=pos_at x hr fun q=>hx (List.mem_cons_of_mem _ q)
  rw [posOf]
  split
  ·rename_i hlt
   refine ⟨Nat.zero_le _,fun i a e=>⟨fun q=>absurd q (Nat.not_lt_zero _),fun _=>?_⟩⟩
   cases i with
   | zero=>cases e; exact hlt
   | succ i=>exact Int.lt_trans hlt (rising_at h 0 (i + 1) (by lia) k a rfl e)
  ·rename_i hlt
   have hne:k ≠ x:=fun q=>hx (q ▸ List.mem_cons_self ..)
   refine ⟨Nat.succ_le_succ h1,fun i a e=>?_⟩
   cases i with
   | zero=>cases e; exact ⟨fun _=>by lia,fun q=>by lia⟩
   | succ i=>exact ⟨fun q=>(h2 i a e).1 (by lia),fun q=>(h2 i a e).2 (by lia)⟩
theorem tbl_lt {ks:List Int} {x:Int} (hr:rising ks = true) (hx:x ∉ ks) {i j:Nat} (hij:i ≠ j) {a b:Int} (ha:(ks ++ [x])[i]? = some a) (hb:(ks ++ [x])[j]? = some b):decide (a < b) = tbl ks.length (posOf x ks) i j:=by
 obtain ⟨hp,hpos⟩:=pos_at x hr hx
 have last:∀ {i:Nat} {a:Int},¬ i < ks.length → (ks ++ [x])[i]? = some a → i = ks.length ∧ a = x:=fun {i a} hn e=>by
  rw [List.getElem?_append_right (by lia)] at e
  have:i - ks.length = 0:=by
   cases hz:i - ks.length with
   | zero=>rfl
   | succ m=>rw [hz] at e; exact no_none e
  rw [this] at e; cases e; exact ⟨by lia,rfl⟩
 unfold tbl
 by_cases hi:i < ks.length
 ·rw [if_pos hi]
  rw [List.getElem?_append_left hi] at ha
  by_cases hj:j < ks.length
  ·rw [if_pos hj]
   rw [List.getElem?_append_left hj] at hb
   by_cases h:i < j
   ·rw [decide_eq_true h,decide_eq_true (rising_at hr i j h a b ha hb)]
   ·have:=rising_at hr j i (by lia) b a hb ha
    rw [decide_eq_false h,decide_eq_false (by lia)]
  ·obtain ⟨_,rfl⟩:=last hj hb
   rw [if_neg hj]
   by_cases h:i < posOf b ks
   ·rw [decide_eq_true h,decide_eq_true ((hpos i a ha).1 h)]
   ·have:=(hpos i a ha).2 (by lia)
    rw [decide_eq_false h,decide_eq_false (by lia)]
 ·obtain ⟨hi2,rfl⟩:=last hi ha
  rw [if_neg hi]
  have hj:j < ks.length:=by
   have:j < (ks ++ [a]).length:=by
    rw [List.getElem?_eq_some_iff] at hb; exact hb.1
   rw [List.length_append] at this
   have:j < ks.length + 1:=this
   lia
  rw [List.getElem?_append_left hj] at hb
  by_cases h:posOf a ks ≤ j
  ·rw [decide_eq_true h,decide_eq_true ((hpos j b hb).2 h)]
  ·have:=(hpos j b hb).1 (by lia)
   rw [decide_eq_false h,decide_eq_false (by lia)]
section
variable {G:Gd} {N:Names} {C:Calls} {d:Dp} {sc:Sc} {Γ:Gam} {A:Around} {t:Tie} {st st':MS} {s:Shared} {env:Env} {loc:Loc} {X Y Z:V} {v w:Value}
theorem firsts_real {h:Heap}:∀ {l:List V} {vs:List Value} {ks:List Int},l.mapM firstInt = some ks → VRels t h l vs → ∃ fs,KatTups h vs fs ∧ fs.length = ks.length ∧ ∀ (i:Nat) (k:Int),ks[i]? = some k → ∃ tk,fs[i]? = some (.int k tk)
 | [],_,ks,e,r=>by cases e; cases r; exact ⟨[],trivial,rfl,fun i k e=>by cases e⟩
 | x :: l,_,ks,e,⟨v,r,rfl,a,b⟩=>by
  rw [List.mapM_cons] at e
  cases hx:firstInt x with
  | none=>rw [hx] at e; exact no_none e
  | some k =>
   rw [hx] at e
   cases hm:l.mapM firstInt with
   | none=>rw [hm] at e; exact no_none e
   | some ks' =>
    rw [hm] at e
    cases e
    obtain ⟨fs,h1,h2,h3⟩:=firsts_real hm b
    cases x with
    | tup m =>
     cases m with
     | nil=>exact no_none hx
     | cons y m =>
      cases y with
      | int k' =>
       cases hx
       obtain ⟨ad,us,rfl,⟨n,ho⟩,_,_,hu⟩:=a
       obtain ⟨u,us',hus,⟨tk,rfl⟩,_⟩:=hu
       have h0:us[0]? = some (.int k tk):=by rw [← Array.getElem?_toList,hus]; rfl
       refine ⟨.int k tk :: fs,⟨⟨ad,_,us,n,rfl,ho,rfl,rfl,h0⟩,h1⟩,congrArg Nat.succ h2,fun i k' e=>?_⟩
       cases i with
       | zero=>cases e; exact ⟨tk,rfl⟩
       | succ i=>exact h3 i k' e
      | _=>exact no_none hx
    | _=>exact no_none hx
theorem tups_at {h:Heap}:∀ {vs fs:List Value},KatTups h vs fs → ∀ (i:Nat) (f:Value),fs[i]? = some f → ∃ a o xs n,vs[i]? = some (.ref a) ∧ h.get? a = some o ∧ o.data = .seq xs n ∧ xs[0]? = some f
 | [],[],_,i,f,e=>by exact no_none e
 | v :: vs,g :: fs,⟨⟨a,o,xs,n,hv,h1,h2,h3,h4⟩,r⟩,0,f,e=>by cases e; cases hv; exact ⟨a,o,xs,n,rfl,h1,h3,h4⟩
 | v :: vs,g :: fs,⟨_,r⟩,i + 1,f,e=>tups_at r i f e
theorem tups_keep {h h':Heap} (k:∀ b o,h.get? b = some o → h'.get? b = some o):∀ {vs fs:List Value},KatTups h vs fs → KatTups h' vs fs
 | [],[],_=>trivial
 | v :: vs,g :: fs,⟨⟨a,o,xs,n,e,h1,r⟩,q⟩=>⟨⟨a,o,xs,n,e,k a o h1,r⟩,tups_keep k q⟩
theorem VRels.getD {h:Heap}:∀ {l:List V} {vs:List Value} (i:Nat),i < l.length → VRels t h l vs → VRel t h (l.getD i .none) (vs.getD i .none)
 | [],_,i,hi,_=>absurd hi (Nat.not_lt_zero _)
 | x :: l,_,0,_,⟨v,r,rfl,a,b⟩=>a
 | x :: l,_,i + 1,hi,⟨v,r,rfl,a,b⟩=>VRels.getD i (Nat.lt_of_succ_lt_succ hi) b
theorem VRels.pick {h:Heap} {l:List V} {vs:List Value} (r:VRels t h l vs):∀ p:List Nat,(∀ i ∈ p,i < l.length) → VRels t h (p.map fun i=>l.getD i .none) (p.map fun i=>vs.getD i .none)
 | [],_=>rfl
 | i :: p,hp=>⟨_,_,rfl,VRels.getD i (hp i (List.mem_cons_self ..)) r,VRels.pick r p fun j hj=>hp j (List.mem_cons_of_mem _ hj)⟩
theorem if_ok' {α:Type} {c:Bool} {a b:α} (h:(if c = true then some a else none) = some b):c = true ∧ a = b:=by
 cases c with
 | true=>cases h; exact ⟨rfl,rfl⟩
 | false=>exact no_none h
theorem tbl_tot {m pos i j:Nat} (hi:i ≤ m) (hj:j ≤ m) (hij:i ≠ j):tbl m pos i j = true ∨ tbl m pos j i = true:=by
 unfold tbl
 by_cases h1:i < m
 ·by_cases h2:j < m
  ·rw [if_pos h1,if_pos h2,if_pos h2,if_pos h1]
   rcases Nat.lt_or_gt_of_ne hij with h | h
   ·exact .inl (decide_eq_true h)
   ·exact .inr (decide_eq_true h)
  ·rw [if_pos h1,if_neg h2,if_neg h2]
   rcases Nat.lt_or_ge i pos with h | h
   ·exact .inl (decide_eq_true h)
   ·exact .inr (decide_eq_true h)
 ·have h2:j < m:=by lia
  rw [if_neg h1,if_pos h2,if_neg h1]
  rcases Nat.lt_or_ge j pos with h | h
  ·exact .inr (decide_eq_true h)
  ·exact .inl (decide_eq_true h)
theorem sortedLast_spec {l m:List V} (e:sortedLast l = some m):(l = [] ∧ m = []) ∨ ∃ ks x,l.mapM firstInt = some (ks ++ [x]) ∧ rising ks = true ∧ x ∉ ks ∧ l.length = ks.length + 1 ∧ ks.length ≤ 5 ∧ m = (wantL ks.length (posOf x ks)).map fun i=>l.getD i .none:=by
 cases hr:l.reverse with
 | nil =>
  have hl:l = []:=by rw [← List.reverse_reverse l,hr]; rfl
  rw [sortedLast,hr] at e
  cases e; exact .inl ⟨hl,rfl⟩
 | cons y r =>
  have hl:l = r.reverse ++ [y]:=by rw [← List.reverse_reverse l,hr,List.reverse_cons]
  rw [sortedLast,hr] at e
  have e:(match firstInt y,(r.reverse).mapM firstInt with
   | some x,some ks=>if (rising ks && !ks.contains x && decide (l.length ≤ 6)) = true then some ((wantL ks.length (posOf x ks)).map fun i=>l.getD i .none) else none
   | _,_=>none) = some m:=e
  cases h1:firstInt y with
  | none=>rw [h1] at e; exact no_none e
  | some x =>
   cases h2:(r.reverse).mapM firstInt with
   | none=>rw [h1,h2] at e; exact no_none e
   | some ks =>
    rw [h1,h2] at e
    have e:(if (rising ks && !ks.contains x && decide (l.length ≤ 6)) = true then some ((wantL ks.length (posOf x ks)).map fun i=>l.getD i .none) else none) = some m:=e
    obtain ⟨hc,e⟩:=if_ok' e
    obtain ⟨hc,q3⟩:=Bool.and_eq_true_iff.1 hc
    obtain ⟨q1,q2⟩:=Bool.and_eq_true_iff.1 hc
    have hlen:∀ {l:List V} {ks:List Int},l.mapM firstInt = some ks → l.length = ks.length:=by
     intro l
     induction l with
     | nil=>intro ks e; cases e; rfl
     | cons a l ih =>
      intro ks e
      rw [List.mapM_cons] at e
      cases ha:firstInt a with
      | none=>rw [ha] at e; exact no_none e
      | some k =>
       rw [ha] at e
       cases hm:l.mapM firstInt with
       | none=>rw [hm] at e; exact no_none e
       | some k2=>rw [hm] at e; cases e; exact congrArg Nat.succ (ih hm)
    have hn:l.length = ks.length + 1:=by rw [hl,List.length_append,hlen h2]; rfl
    refine .inr ⟨ks,x,?_,q1,fun q=>?_,hn,by have:=of_decide_eq_true q3; lia,e.symm⟩
    ·rw [hl,List.mapM_append,h2,List.mapM_cons,h1]; rfl
    ·rw [List.contains_iff_mem.2 q] at q2; exact no_ft q2
theorem want_lt {m pos:Nat} (h:pos ≤ m):(wantL m pos).length = m + 1 ∧ ∀ i ∈ wantL m pos,i < m + 1:=by
 refine ⟨by rw [wantL,List.length_append,List.length_cons,List.length_map,List.length_range,List.length_range]; lia,fun i hi=>?_⟩
 rcases List.mem_append.1 hi with hi | hi
 ·have:=List.mem_range.1 hi; lia
 ·rcases List.mem_cons.1 hi with hi | hi
  ·lia
  ·obtain ⟨j,hj,rfl⟩:=List.mem_map.1 hi
   have:=List.mem_range.1 hj; lia
theorem sorted_sound (R:Rel G t st s) {l m:List V} (r:VRel t s.heap (.lst l) v) (e:sortedLast l = some m):Sim G A t s (call (.builtin "sorted") [v]) st (vrel (.lst m)):=by
 obtain ⟨a,vs,rfl,io,na,sz,rr⟩:=r
 have hvl:vs.toList.length = l.length:=rr.length
 have hlst:s.heap.IsList a vs.toList.toArray:=by rw [Array.toArray_toList]; exact io.isList
 intro Q E q
 have fin:∀ {out:List Value},VRels t s.heap m out → m.length ≤ sizeMax → (∀ h' c,(∀ b o,s.heap.get? b = some o → h'.get? b = some o) → h'.get? (s.heap.objs.size + 1) = some (seqObj "list" out.toArray c) → Q (.ref (s.heap.objs.size + 1)) { s with heap:=h' }):=by
  intro out ro hm h' c hk ho
  have S:Step noX t t s { s with heap:=h' }:=Step.grow R hk rfl rfl
  refine q _ t _ S (R.grow hk rfl rfl) ⟨_,out.toArray,rfl,⟨c,ho⟩,R.fresh (size_none1 _),hm,?_⟩
  exact VRels.step S (fun _ z=>z.elim) _ ro
 rcases sortedLast_spec e with ⟨rfl,rfl⟩ | ⟨ks,x,hm,hr,hx,hln,h5,rfl⟩
 ·have:vs.toList = []:=List.length_eq_zero_iff.1 hvl
  refine sorted_go (out:=[]) hlst (by rw [this]; decide) (by rw [this]) (fun _=>this.symm) (fun h=>by rw [this] at h; exact absurd h (by decide)) (fin rfl (Nat.zero_le _))
 ·obtain ⟨hp,-⟩:=pos_at x hr hx
  obtain ⟨w1,w2⟩:=want_lt hp
  obtain ⟨fs,k1,k2,k3⟩:=firsts_real hm rr
  rw [List.length_append] at k2
  have k2:fs.length = ks.length + 1:=k2
  refine sorted_go (out:=(wantL ks.length (posOf x ks)).map fun i=>vs.toList.getD i .none) hlst (by rw [hvl]; lia) (by rw [List.length_map,w1,hvl,hln]) (fun h=>?_) (fun h2 A' s' E' hk=>?_) (fin (VRels.pick rr _ fun i hi=>by rw [hln]; exact w2 i hi) (by rw [List.length_map,w1]; show _ ≤ 16777216; lia))
  ·have hks:ks = []:=List.length_eq_zero_iff.1 (by lia)
   subst hks
   show [vs.toList.getD 0 .none] = vs.toList
   cases hv:vs.toList with
   | nil=>rw [hv] at hvl; cases hvl.trans hln
   | cons y r=>cases r with
    | nil=>rfl
    | cons=>rw [hv] at h; exact absurd h (by simp)
  ·refine kat_kind (T:=.type "int") (tups_keep hk k1) (by rw [k2]; exact Nat.succ_pos _) (fun f hf=>?_) rfl ?_
   ·obtain ⟨i,hi,rfl⟩:=List.mem_iff_getElem.1 hf
    have hi':i < (ks ++ [x]).length:=by rw [List.length_append]; show i < ks.length + 1; lia
    obtain ⟨tk,q1⟩:=k3 i _ (List.getElem?_eq_getElem hi')
    rw [List.getElem?_eq_getElem hi] at q1
    rw [Option.some.inj q1]
    exact Looks.of_pure rfl
   ·have ht:=tbl_ok ⟨ks.length - 1,by lia⟩ ⟨posOf x ks,by show _ < ks.length - 1 + 2; lia⟩
    have e1:ks.length - 1 + 2 = vs.toList.length:=by lia
    have e2:ks.length - 1 + 1 = ks.length:=by lia
    have ht:kasChk (ks.length - 1 + 2) (tbl (ks.length - 1 + 1) (posOf x ks)) (wantL (ks.length - 1 + 1) (posOf x ks)) (kas_sort (ks.length - 1 + 2)) = true:=ht
    rw [e1,e2] at ht
    refine kas_of (n:=vs.toList.length) (fun i j hi hj hij C hC=>?_) (fun a ha=>⟨rfl,by rw [ha]⟩) _ ht
    have hki:i < (ks ++ [x]).length:=by rw [List.length_append]; show i < ks.length + 1; lia
    have hkj:j < (ks ++ [x]).length:=by rw [List.length_append]; show j < ks.length + 1; lia
    obtain ⟨ti,f1⟩:=k3 i _ (List.getElem?_eq_getElem hki)
    obtain ⟨tj,f2⟩:=k3 j _ (List.getElem?_eq_getElem hkj)
    obtain ⟨ai,oi,xs,ni,g1,g2,g3,g4⟩:=tups_at (tups_keep hk k1) i _ f1
    obtain ⟨aj,oj,ys,nj,h1,h2,h3,h4⟩:=tups_at (tups_keep hk k1) j _ f2
    unfold kas_ask
    rw [List.getD_eq_getElem?_getD,List.getD_eq_getElem?_getD,g1,h1]
    have hlt:=tbl_lt hr hx hij (List.getElem?_eq_getElem hki) (List.getElem?_eq_getElem hkj)
    have hne:((ks ++ [x])[i] == (ks ++ [x])[j]) = false:=by
     rw [beq_eq_false_iff_ne]
     intro z
     have hlt2:=tbl_lt hr hx (Ne.symm hij) (List.getElem?_eq_getElem hkj) (List.getElem?_eq_getElem hki)
     rw [z,decide_eq_false (Int.lt_irrefl _)] at hlt hlt2
     rcases tbl_tot (m:=ks.length) (pos:=posOf x ks) (i:=i) (j:=j) (by lia) (by lia) hij with h | h
     ·rw [h] at hlt; exact no_ft hlt
     ·rw [h] at hlt2; exact no_ft hlt2
    have hz:∃ r,xs.toList.zip ys.toList = (.int (ks ++ [x])[i] ti,.int (ks ++ [x])[j] tj) :: r:=by
     rw [← Array.getElem?_toList] at g4 h4
     cases hxs:xs.toList with
     | nil=>rw [hxs] at g4; exact no_none g4
     | cons a r=>cases hys:ys.toList with
      | nil=>rw [hys] at h4; exact no_none h4
      | cons b r'=>rw [hxs] at g4; rw [hys] at h4; cases g4; cases h4; exact ⟨_,rfl⟩
    obtain ⟨rest,hz⟩:=hz
    refine kat_lt g2 g3 h2 h3 ?_
    rw [hz]
    refine kat_cons (wpAny_eqBool_int ?_)
    rw [hne]
    exact kat_no (oneLt_int (by rw [hlt]; exact hC))
theorem sim_primA (hq:d.q = true) (O:G.Ok N) {p:Prim} {l:List E} {m:List PySem.Expr} {np pos:Pos} (hg:glob sc (primName p) = true) (hm:plainArgs m = true) (hlm:l.length = m.length) (hl:SimEs G C d sc Γ l m) :
  SimE G C d sc Γ (.prim p l) (.Call (.Name (primName p) np) m [] pos):=by
 cases hp:primOk p with
 | true=>exact sim_prim hq O hp hg hm hlm hl
 | false =>
  obtain rfl:p = .sorted:=by cases p <;> first | rfl | exact no_tf hp
  intro t st s env loc X st' A hA hsc F R e Q E k
  rw [ev_prim] at e
  obtain ⟨Vs,s1,e1,e⟩:=Res.bind_ok e
  refine wpAny_Call_ofName (built_glob (v:=.builtin "sorted") O F R hsc hg (prim_in .sorted) (by decide +kernel) ?_)
  refine with_go O (keeps_b _) hm hlm hl hA hsc F R e1 fun vs t1 σ1 S1 R1 r1=>?_
  cases Vs with
  | nil=>exact no_stuck e
  | cons V Vs=>cases Vs with
   | nil =>
    obtain ⟨v,_,rfl,r1,rfl⟩:=r1
    cases V with
    | lst l =>
     have e:(match sortedLast l with | some m=>Res.ok (V.lst m) s1 | none=>.stuck) = .ok X st':=e
     cases hs:sortedLast l with
     | none=>rw [hs] at e; exact no_stuck e
     | some m =>
      rw [hs] at e
      cases e
      exact sorted_sound R1 r1 hs _ _ fun v t2 σ2 S2 R2 r2=>k v t2 σ2 (S1.trans S2) R2 r2
    | _=>exact no_stuck e
   | cons W Vs=>cases Vs <;> exact no_stuck e
end
end Mine
end
section
namespace Mine
end Mine
end
section
namespace Mine
open PySem PySem.W PyProof.Rows
section
variable {G:Gd} {N:Names} {C:Calls} {d:Dp} {sc:Sc} {Γ:Gam} {A:Around} {t t':Tie} {st st':MS} {s:Shared} {env:Env} {loc:Loc} {X Y Z:V} {v w:Value} {n:Nat} {h:Heap}
noncomputable def vbm:List Value:=[.type "ValueError",.type "Exception",.type "BaseException",.type "object"]
noncomputable abbrev OwnX (G:Gd) (x:PySem.Str) (c:Nat):Prop:=OwnCls x c vbm "ValueError.__new__" G.mg G.h₀
noncomputable def CallsX (G:Gd) (C:Calls) (d:Dp) (xf:Nat → Bool):Prop:=True
noncomputable def CallsQ (G:Gd) (C:Calls) (n:Nat) (qf:Nat → Bool):Prop:=∀ f,qf f = true → CallAt G C ⟨n,false⟩ f
set_option genCtorIdx false in
structure CallsA (G:Gd) (xf qf:Nat → Bool) (C:Calls) (n:Nat):Prop where
 ok:CallsOk G C ⟨n,true⟩
 x:CallsX G C ⟨n,true⟩ xf
 q:CallsQ G C n qf
theorem run_okE {P:Prog} {f:Nat} {vs:List V} {X:V} (e:run P (n + 1) f vs st = .ok X st'):∃ fn p,P.fns f = some fn ∧ vs.length = fn.np ∧ exs P (run P n) n fn.body (vs.map some ++ List.replicate (fn.names.length - fn.np) none) st = .ok p st' ∧ X = (match p.1 with | .ret v=>v | .next=>.none):=by
 simp only [run] at e
 split at e
 case h_2=>exact no_stuck e
 rename_i fn hf
 split at e
 case isFalse=>exact no_stuck e
 rename_i hnp
 obtain ⟨p,s1,e1,e⟩:=Res.bind_ok e
 cases e
 exact ⟨fn,p,hf,hnp,e1,rfl⟩
theorem call_rec (O:G.Ok N) {q:Bool} {PX:Calls → Nat → Prop} {f:Nat} (hfn:∀ fn,G.P.fns f = some fn → ∃ a,G.fa f = some a ∧ FnRec G q PX fn a) (px:PX (run G.P n) n):CallAt G (run G.P (n + 1)) ⟨n + 1,q⟩ f:=by
 intro vs st X st' e A hA
 obtain ⟨fn,p,hf,hnp,e1,h1⟩:=run_okE e
 obtain ⟨a,ha,rec⟩:=hfn fn hf
 exact ⟨a,ha,fun t s args K R r B k=>entry_go O rec px hA K R r hnp e1 fun v t' s' S' R' rv=>k v t' s' S' R' (by rw [h1]; exact rv)⟩
theorem calls_both (O:G.Ok N) {xf qf:Nat → Bool} (hfn:∀ f fn,G.P.fns f = some fn → ∃ a,G.fa f = some a ∧ FnRec G true (CallsA G xf qf) fn a)
  (hq:∀ f fn,qf f = true → G.P.fns f = some fn → ∃ a,G.fa f = some a ∧ FnRec G false (fun C n=>CallsQ G C n qf) fn a):∀ n,CallsA G xf qf (run G.P n) n
 | 0=>⟨fun f vs st X st' e=>(by cases e),trivial,fun f _ vs st X st' e=>(by cases e)⟩
 | n + 1 =>
  have ih:=calls_both O hfn hq n
  ⟨fun f=>call_rec O (hfn f) ih,trivial,fun f qq=>call_rec O (fun fn=>hq f fn qq) ih.q⟩
end
end Mine
end
section
namespace Mine
open PySem PySem.W PyProof.Rows PySem.Spec PySem.Calls Builtin Builtin.ObjectAttr Builtin.Getset_descriptor
section
variable {G:Gd} {N:Names} {C:Calls} {d:Dp} {sc:Sc} {Γ:Gam} {A:Around} {t t':Tie} {st st':MS} {s:Shared} {env:Env} {loc:Loc} {X Y Z:V} {v w:Value} {n:Nat} {h:Heap}
noncomputable def xcls (K:Frag) (c:Nat):Bool:=decide (findIn K (.ref c) "__getattribute__" = some (some (.builtin "BaseException.__getattribute__"))) && decide (findIn K (.ref c) "__getattr__" = some none) && decide (mroIn K c (.type "BaseException") = some true) && decide (findIn K (.ref c) "__class__" = some (some (.builtin "object.__class__"))) && decide (specialIn K (.builtin "object.__class__") "__get__" = some (some (.builtin "getset_descriptor.__get__"))) &&
 decide (takesIn K (.builtin "object.__class__") = some true) && decide (mroIn K c (.type "object") = some true) && (clsIn K c).isSome
noncomputable def xval (k:Nat):Value:=if k = 0 then .type "ValueError" else .ref k
end
end Mine
end
section
namespace Mine
open PySem PySem.W PyProof.Rows
inductive Ck (p:Prop):Type where
 | yes (h:p)
 | no
noncomputable def Ck.bind {p q:Prop} (a:Ck p) (k:p → Ck q):Ck q:=Ck.rec (motive:=fun _=>Ck q) k .no a
noncomputable def Ck.isYes {p:Prop} (a:Ck p):Bool:=Ck.rec (fun _=>true) false a
theorem Ck.get {p:Prop} {a:Ck p} (h:a.isYes = true):p:=by
 cases a with
 | yes g=>exact g
 | no=>exact no_ft h
theorem and_ok {a b:Bool} (h:(a && b) = true):a = true ∧ b = true:=by cases a <;> cases b <;> first | exact ⟨rfl,rfl⟩ | exact no_ft h
class No (α:Type) where
 no:α
noncomputable instance {p:Prop}:No (Ck p):=⟨.no⟩
noncomputable def wb {α:Type} [No α] (b:Bool) (k:b = true → α):α:=Bool.rec (motive:=fun b=>(b = true → α) → α) (fun _=>No.no) (fun k=>k rfl) b k
noncomputable def wk {p:Prop} {α:Type} [No α] (a:Ck p) (k:p → α):α:=Ck.rec (motive:=fun _=>α) k No.no a
@[elab_as_elim] noncomputable def wq {α:Type} [BEq α] [LawfulBEq α] {P:α → Type} [∀ x,No (P x)] (a b:α) (k:P a):P b:=wb (a == b) fun h=>eq_of_beq h ▸ k
section
variable {P:PySem.Expr → Type} [∀ x,No (P x)]
@[elab_as_elim] noncomputable def wName (x:PySem.Expr) (f:∀ y p,P (.Name y p)):P x:=wb (Nat.beq x.ctorIdx 23) fun h=>PySem.Expr.Name.elim x (Nat.eq_of_beq_eq_true h) f
@[elab_as_elim] noncomputable def wConst (x:PySem.Expr) (f:∀ y k p,P (.Constant y k p)):P x:=wb (Nat.beq x.ctorIdx 19) fun h=>PySem.Expr.Constant.elim x (Nat.eq_of_beq_eq_true h) f
@[elab_as_elim] noncomputable def wUn (x:PySem.Expr) (f:∀ o a p,P (.UnaryOp o a p)):P x:=wb (Nat.beq x.ctorIdx 3) fun h=>PySem.Expr.UnaryOp.elim x (Nat.eq_of_beq_eq_true h) f
@[elab_as_elim] noncomputable def wBool (x:PySem.Expr) (f:∀ o a p,P (.BoolOp o a p)):P x:=wb (Nat.beq x.ctorIdx 0) fun h=>PySem.Expr.BoolOp.elim x (Nat.eq_of_beq_eq_true h) f
@[elab_as_elim] noncomputable def wBin (x:PySem.Expr) (f:∀ a o b p,P (.BinOp a o b p)):P x:=wb (Nat.beq x.ctorIdx 2) fun h=>PySem.Expr.BinOp.elim x (Nat.eq_of_beq_eq_true h) f
@[elab_as_elim] noncomputable def wCmp (x:PySem.Expr) (f:∀ a o b p,P (.Compare a o b p)):P x:=wb (Nat.beq x.ctorIdx 15) fun h=>PySem.Expr.Compare.elim x (Nat.eq_of_beq_eq_true h) f
@[elab_as_elim] noncomputable def wTup (x:PySem.Expr) (f:∀ a o p,P (.Tuple a o p)):P x:=wb (Nat.beq x.ctorIdx 25) fun h=>PySem.Expr.Tuple.elim x (Nat.eq_of_beq_eq_true h) f
@[elab_as_elim] noncomputable def wList (x:PySem.Expr) (f:∀ a p,P (.List a p)):P x:=wb (Nat.beq x.ctorIdx 24) fun h=>PySem.Expr.List.elim x (Nat.eq_of_beq_eq_true h) f
@[elab_as_elim] noncomputable def wDict (x:PySem.Expr) (f:∀ a b p,P (.Dict a b p)):P x:=wb (Nat.beq x.ctorIdx 6) fun h=>PySem.Expr.Dict.elim x (Nat.eq_of_beq_eq_true h) f
@[elab_as_elim] noncomputable def wSub (x:PySem.Expr) (f:∀ a b p,P (.Subscript a b p)):P x:=wb (Nat.beq x.ctorIdx 21) fun h=>PySem.Expr.Subscript.elim x (Nat.eq_of_beq_eq_true h) f
@[elab_as_elim] noncomputable def wSlice (x:PySem.Expr) (f:∀ a b c p,P (.Slice a b c p)):P x:=wb (Nat.beq x.ctorIdx 26) fun h=>PySem.Expr.Slice.elim x (Nat.eq_of_beq_eq_true h) f
@[elab_as_elim] noncomputable def wAttr (x:PySem.Expr) (f:∀ a b p,P (.Attribute a b p)):P x:=wb (Nat.beq x.ctorIdx 20) fun h=>PySem.Expr.Attribute.elim x (Nat.eq_of_beq_eq_true h) f
@[elab_as_elim] noncomputable def wCall (x:PySem.Expr) (f:∀ a b c p,P (.Call a b c p)):P x:=wb (Nat.beq x.ctorIdx 16) fun h=>PySem.Expr.Call.elim x (Nat.eq_of_beq_eq_true h) f
@[elab_as_elim] noncomputable def wComp (x:PySem.Expr) (f:∀ a b c p,P (.ListComp a b c p)):P x:=wb (Nat.beq x.ctorIdx 8) fun h=>PySem.Expr.ListComp.elim x (Nat.eq_of_beq_eq_true h) f
end
section
variable {α:Type} {P:List α → Type} [∀ x,No (P x)]
@[elab_as_elim] noncomputable def w0 (l:List α) (f:P []):P l:=List.rec (motive:=fun l=>P l) f (fun _ _ _=>No.no) l
@[elab_as_elim] noncomputable def wc (l:List α) (f:∀ a r,P (a :: r)):P l:=List.rec (motive:=fun l=>P l) No.no (fun a r _=>f a r) l
@[elab_as_elim] noncomputable def w1 (l:List α) (f:∀ a,P [a]):P l:=wc l fun a r=>w0 (P:=fun r=>P (a :: r)) r (f a)
@[elab_as_elim] noncomputable def w2 (l:List α) (f:∀ a b,P [a,b]):P l:=wc l fun a r=>w1 (P:=fun r=>P (a :: r)) r (f a)
variable {Q:Option α → Type} [∀ x,No (Q x)]
@[elab_as_elim] noncomputable def wn (l:Option α) (f:Q none):Q l:=Option.rec (motive:=fun l=>Q l) f (fun _=>No.no) l
@[elab_as_elim] noncomputable def ws (l:Option α) (f:∀ a,Q (some a)):Q l:=Option.rec (motive:=fun l=>Q l) No.no f l
end
section
variable {P:PySem.Expr → Type} [∀ x,No (P x)]
@[elab_as_elim] noncomputable def wCallN (x:PySem.Expr) (n:PySem.Str) (f:∀ np l p,P (.Call (.Name n np) l [] p)):P x :=
 wCall x fun a l k p=>wName (P:=fun a=>P (.Call a l k p)) a fun y np=>wq (P:=fun y=>P (.Call (.Name y np) l k p)) n y (w0 (P:=fun k=>P (.Call (.Name n np) l k p)) k (f np l p))
@[elab_as_elim] noncomputable def wCallA (x:PySem.Expr) (n:PySem.Str) (f:∀ a ap l p,notSuper a = true → (ap.endLine == p.line) = true → l.length < 30 → P (.Call (.Attribute a n ap) l [] p)):P x :=
 wCall x fun b l k p=>wAttr (P:=fun b=>P (.Call b l k p)) b fun a y ap=>wq (P:=fun y=>P (.Call (.Attribute a y ap) l k p)) n y (w0 (P:=fun k=>P (.Call (.Attribute a n ap) l k p)) k
  (wb (notSuper a) fun h1=>wb (ap.endLine == p.line) fun h2=>wb (decide (l.length < 30)) fun h3=>f a ap l p h1 h2 (of_decide_eq_true h3)))
@[elab_as_elim] noncomputable def wK (v:Const) (x:PySem.Expr) (f:∀ k p,P (.Constant v k p)):P x:=wConst x fun c k p=>wb (decide (v = c)) fun h=>of_decide_eq_true h ▸ f k p
end
end Mine
end
section
namespace Mine
open PySem PySem.W PyProof.Rows
set_option genCtorIdx false in
structure Hyp (G:Gd) (N:Names) (C:Calls) (d:Dp):Prop where
 O:G.Ok N
 CO:d.q = true → CallsOk G C d
 hcl:∀ c Ca,G.ca c = some Ca → ClsOk G Ca
 hfn:∀ f a,G.fa f = some a → FnOk G N f a
 hme:∀ c k f Ca,G.P.meths c k = some f → G.ca c = some Ca → ∃ a,G.fa f = some a ∧ MethOk G Ca (N.meth k) a
 hne:∀ c k f,G.P.inits c = some (k,f) → ∃ Ca fi,G.ca c = some Ca ∧ G.fa f = some fi ∧ NewOk G N c Ca fi
 xw:∀ y c,N.xs.contains (y,c) = true → c ≠ 0 ∧ OwnX G y c
 xk:∀ c k,(G.P.excBase c).contains c = true → (G.P.excBase c).contains k = true → kitOne G.K (.ref c) (xval k) = some true ∧ (k ≠ 0 → exmOne G.K (.ref c) (.ref k) = some true)
 xm:∀ k c f,N.xm k = true → G.P.meths c k = some f → N.xf f = true
 xi:∀ c k,(G.P.excBase c).contains c = true → (k = 0 ∨ ∃ y,N.xs.contains (y,k) = true) → xcls G.K c = true ∧ kitOne G.K (.ref c) (xval k) = some ((G.P.excBase c).contains k)
 CX:d.q = true → CallsX G C d N.xf
 CQ:CallsQ G C d.n N.qf
theorem Hyp.quiet {G:Gd} {N:Names} {C:Calls} {d:Dp} (H:Hyp G N C d):Hyp G N C ⟨d.n,false⟩:=⟨H.O,nofun,H.hcl,H.hfn,H.hme,H.hne,H.xw,H.xk,H.xm,H.xi,nofun,H.CQ⟩
section
variable {G:Gd} {N:Names} {C:Calls} {d:Dp} {sc:Sc} {Γ:Gam} {x:PySem.Expr}
def SimET (G:Gd) (C:Calls) (d:Dp) (sc:Sc) (Γ:Gam) (e:E) (x:PySem.Expr):Prop:=isStarred x = false ∧ notSlice x = true ∧ SimE G C d sc Γ e x ∧ SimT G C d sc Γ e x
def SimLs (G:Gd) (C:Calls) (d:Dp) (sc:Sc) (Γ:Gam) (l:List E) (m:List PySem.Expr):Prop:=SimL G C d sc Γ l m ∧ SimEs G C d sc Γ l m ∧ plainArgs m = true ∧ l.length = m.length
theorem simET {e:E} (h1:isStarred x = false) (h2:notSlice x = true) (h3:plainTest x = true) (h:SimE G C d sc Γ e x):SimET G C d sc Γ e x:=⟨h1,h2,h,simT_plain h3 h⟩
theorem SimET.e {e:E} (h:SimET G C d sc Γ e x):SimE G C d sc Γ e x:=h.2.2.1
theorem SimET.t {e:E} (h:SimET G C d sc Γ e x):SimT G C d sc Γ e x:=h.2.2.2
theorem ls_cons {e:E} {l:List E} {m:List PySem.Expr} (h1:SimET G C d sc Γ e x) (h2:SimLs G C d sc Γ l m):SimLs G C d sc Γ (e :: l) (x :: m) :=
 ⟨.cons h1.e h1.t h2.1,sim_es_cons h1.1 h1.e h2.2.1,by rw [show plainArgs (x :: m) = (!isStarred x && plainArgs m) from rfl,h1.1]; exact h2.2.2.1,congrArg Nat.succ h2.2.2.2⟩
def KeysAst (ks:List (List Nat)) (m:List (Option PySem.Expr)):Prop:=m.length = ks.length ∧ ∀ i:Nat,∀ x,m[i]? = some x → ∃ y k p,ks[i]? = some y ∧ x = some (.Constant (.str (toStr y)) k p)
theorem keysAst_cons {k:List Nat} {ks:List (List Nat)} {m:List (Option PySem.Expr)} {c:Nat} {p:Pos} (h:KeysAst ks m):KeysAst (k :: ks) (some (.Constant (.str (toStr k)) c p) :: m) :=
 ⟨congrArg Nat.succ h.1,fun i x e=>by
  cases i with
  | zero=>cases e; exact ⟨k,c,p,rfl,rfl⟩
  | succ i=>exact h.2 i x e⟩
noncomputable def ckKeys:(ks:List (List Nat)) → (m:List (Option PySem.Expr)) → Ck (KeysAst ks m)
 | [],m=>w0 m (.yes ⟨rfl,fun i x e=>by cases e⟩)
 | k :: ks,m=>wc m fun o r=>ws o fun x=>wK (.str (toStr k)) x fun c p=>(ckKeys ks r).bind fun h=>.yes (keysAst_cons h)
def ItOk' (G:Gd) (C:Calls) (d:Dp) (sc:Sc) (Γ:Gam) (range:Bool) (it:E) (i:PySem.Expr):Prop:=∃ j,IterAst sc range i j ∧ SimE G C d sc Γ it j
noncomputable def ckIt (range:Bool) {it:E} (i:PySem.Expr) (f:(x:PySem.Expr) → Ck (SimET G C d sc Γ it x)):Ck (ItOk' G C d sc Γ range it i) :=
 match range with
 | false=>(f i).bind fun h=>.yes ⟨i,.plain i,h.e⟩
 | true=>wCallN i "range" fun np l p=>wb (glob sc "range") fun hg=>w1 l fun j=>(f j).bind fun h=>.yes ⟨j,.range hg h.1,h.e⟩
set_option genCtorIdx false in
structure CompAst (G:Gd) (C:Calls) (d:Dp) (sc:Sc) (Γ:Gam) (slot:Nat) (range:Bool) (it:E) (cond:Option E) (elt:E) (e i:PySem.Expr) (y:PySem.Str) (ifs:List PySem.Expr) (scope:Scope):Prop where
 ok:compOk sc scope slot Γ y = true
 ns:notSet i = true
 it:ItOk' G C d sc Γ range it i
 co:CondSim G C d (compSc sc scope.names) (compGam (compSc sc scope.names) Γ slot y) cond ifs
 el:SimE G C d (compSc sc scope.names) (compGam (compSc sc scope.names) Γ slot y) elt e
@[elab_as_elim] noncomputable def wComp1 {P:PySem.Expr → Type} [∀ x,No (P x)] {slot:Nat} {range:Bool} {it:E} {cond:Option E} {elt:E} (x:PySem.Expr) (fi:∀ x,Ck (SimET G C d sc Γ it x)) (fc:∀ sc Γ m,Ck (CondSim G C d sc Γ cond m)) (fe:∀ sc Γ x,Ck (SimET G C d sc Γ elt x))
  (k:∀ e i y px ifs scope pos,CompAst G C d sc Γ slot range it cond elt e i y ifs scope → P (.ListComp e [⟨.Name y px,i,ifs,0⟩] scope pos)):P x :=
 wComp x fun e gs scope pos=>w1 gs fun g=>match g with
  | ⟨t,i,ifs,a⟩=>wName t fun y px=>wq (P:=fun a=>P (.ListComp e [⟨.Name y px,i,ifs,a⟩] scope pos)) 0 a
   (wb (compOk sc scope slot Γ y) fun h1=>wb (notSet i) fun h2=>wk (ckIt range i fi) fun h3=>wk (fc (compSc sc scope.names) (compGam (compSc sc scope.names) Γ slot y) ifs) fun h4=>wk (fe (compSc sc scope.names) (compGam (compSc sc scope.names) Γ slot y) e) fun h5=>k e i y px ifs scope pos ⟨h1,h2,h3,h4,h5.e⟩)
theorem ck_comp (hq:d.q = true) (H:Hyp G N C d) {M:Option Nat} {slot:Nat} {range:Bool} {it:E} {cond:Option E} {elt:E} {e i:PySem.Expr} {y:PySem.Str} {px pos:Pos} {ifs:List PySem.Expr} {scope:Scope} (K:CompAst G C d sc Γ slot range it cond elt e i y ifs scope) :
  SimET G C d sc Γ (.comp M slot range it cond elt) (.ListComp e [⟨.Name y px,i,ifs,0⟩] scope pos):=by
 obtain ⟨j,h1,h2⟩:=K.it
 exact simET rfl rfl rfl (sim_comp hq H.O (compOk_real K.ok) K.ns h1 h2 K.co K.el)
noncomputable def ckCall (H:Hyp G N C d) (f:Nat):Ck (CallAt G C d f) :=
 match d,H with
 | ⟨_,true⟩,H=>.yes (H.CO rfl f)
 | ⟨_,false⟩,H=>wb (N.qf f) fun h=>.yes (H.CQ f h)
theorem ck_dictM (H:Hyp G N C d) {k:Nat} {ks:List (List Nat)} {l:List E} {m:List (Option PySem.Expr)} {m':List PySem.Expr} {p:Pos} (h:KeysAst ks m) (h2:decide (ks.length = l.length) = true) (g:SimLs G C d sc Γ l m'):SimET G C d sc Γ (.dictM k ks l) (.Dict m m' p) :=
 simET rfl rfl rfl (sim_dictA H.O g.1 (of_decide_eq_true h2) h.2 h.1)
theorem ck_attr (H:Hyp G N C d) {a:E} {i:Nat} {p:Pos} (h2:decide (i < 13) = true) (h3:notSuper x = true) (g:SimET G C d sc Γ a x):SimET G C d sc Γ (.attr a i) (.Attribute x (N.attr i) p):=by
 rw [show N.attr i = G.an i from congrFun H.O.attr i]
 exact simET rfl rfl rfl (sim_attr H.O H.hcl (of_decide_eq_true h2) h3 g.e)
theorem not_empty {n:PySem.Str} (h:(!(n == Str.empty)) = true):n ≠ Str.empty:=by
 intro e; subst e; exact no_ft h
noncomputable def ckKs {a:E} (H:Hyp G N C d) (sc:Sc) (Γ:Gam) (ks:List Kind) (np:Pos) (y z:PySem.Expr) (p:Pos) (g:SimET G C d sc Γ a y) (hg:glob sc "isinstance" = true):Ck (SimET G C d sc Γ (.isinst a ks) (.Call (.Name "isinstance" np) [y,z] [] p)) :=
 wc ks fun k r=>wb (kindUse k) fun h1=>match r with
  | []=>wb (chkKind N sc k z) fun h2=>.yes (simET rfl rfl rfl (sim_isinst1 H.O h1 hg g.1 h2 g.e))
  | k' :: r=>w0 r (wb (kindUse k') fun h2=>wTup z fun zs cx tp=>wb (chkKinds N sc [k,k'] zs) fun h3=>.yes (simET rfl rfl rfl (sim_isinst2 H.O h1 h2 hg g.1 h3 g.e)))
mutual
noncomputable def ckE (H:Hyp G N C d):(e:E) → (sc:Sc) → (Γ:Gam) → (x:PySem.Expr) → Ck (SimET G C d sc Γ e x)
 | .none,sc,Γ,x=>wK .none x fun k p=>.yes (simET rfl rfl rfl sim_none)
 | .bool b,sc,Γ,x=>wK (.bool b) x fun k p=>.yes (simET rfl rfl rfl sim_bool)
 | .int i,sc,Γ,x=>wK (.int i) x fun k p=>.yes (simET rfl rfl rfl sim_int)
 | .str l,sc,Γ,x=>wK (.str (toStr l)) x fun k p=>.yes (simET rfl rfl rfl sim_str)
 | .loc i,sc,Γ,x=>wName x fun y p=>wb (Γ[i]? == some (some y)) fun h1=>wb (!(y == ("__debug__":PySem.Str))) fun h2=>.yes (simET rfl rfl rfl (sim_loc (eq_of_beq h1) (Bool.not_eq_true' _ ▸ h2)))
 | .gint g i,sc,Γ,x=>wName x fun y p=>wq g y (wb (glob sc g) fun h2=>wb (N.gi.contains (g,i)) fun h3=>.yes (simET rfl rfl rfl (sim_gint H.O h2 h3)))
 | .gstr g i,sc,Γ,x=>wName x fun y p=>wq g y (wb (glob sc g) fun h2=>wb (N.gs.contains (g,i)) fun h3=>.yes (simET rfl rfl rfl (sim_gstr H.O h2 h3)))
 | .neg a,sc,Γ,x=>wUn x fun o y p=>wq .USub o ((ckE H a sc Γ y).bind fun g=>.yes (simET rfl rfl rfl (sim_neg g.e)))
 | .not a,sc,Γ,x=>wUn x fun o y p=>wq .Not o ((ckE H a sc Γ y).bind fun g=>.yes ⟨rfl,rfl,sim_not g.e,simT_not g.t⟩)
 | .and l,sc,Γ,x=>wBool x fun o m p=>wq .And o ((ckEs H l sc Γ m).bind fun g=>.yes ⟨rfl,rfl,simE_and g.1,simTE_and g.1⟩)
 | .or l,sc,Γ,x=>wBool x fun o m p=>wq .Or o ((ckEs H l sc Γ m).bind fun g=>.yes ⟨rfl,rfl,simE_or g.1,simTE_or g.1⟩)
 | .bin o a b,sc,Γ,x=>wBin x fun y q z p=>wq (opOf o) q ((ckE H a sc Γ y).bind fun g1=>(ckE H b sc Γ z).bind fun g2=>.yes (simET rfl rfl rfl (sim_bin H.O g1.e g2.e)))
 | .cmp a o b,sc,Γ,x=>wCmp x fun y qs zs p=>w1 qs fun q=>w1 zs fun z=>wq (cmpOf o) q ((ckE H a sc Γ y).bind fun g1=>(ckE H b sc Γ z).bind fun g2=>wb (!behindInMarks (cmpOf o) z) fun h=>.yes ⟨rfl,rfl,sim_cmp (Bool.not_eq_true' _ ▸ h) g1.e g2.e,simT_cmp (Bool.not_eq_true' _ ▸ h) g1.e g2.e⟩)
 | .cmp2 a o b o2 c,sc,Γ,x=>wCmp x fun y qs zs p=>w2 qs fun q r=>w2 zs fun z u=>wq (cmpOf o) q (wq (cmpOf o2) r ((ckE H a sc Γ y).bind fun g1=>(ckE H b sc Γ z).bind fun g2=>(ckE H c sc Γ u).bind fun g3 =>
   wb (!behindInMarks (cmpOf o2) u) fun h=>.yes ⟨rfl,rfl,sim_cmp2 (Bool.not_eq_true' _ ▸ h) g1.e g2.e g3.e,simT_cmp2 (Bool.not_eq_true' _ ▸ h) g1.e g2.e g3.e⟩))
 | .isC n a v,sc,Γ,x=>wCmp x fun y qs zs p=>w1 qs fun q=>w1 zs fun z=>(ckE H a sc Γ y).bind fun g1=>wb (isNot q n) fun h2=>(match v with
   | .none=>wK .none z fun k p=>.yes ⟨rfl,rfl,sim_isN h2 g1.e,simT_isN h2 g1.e⟩
   | _=>.no)
 | .tup l,sc,Γ,x=>wTup x fun m k p=>(ckEs H l sc Γ m).bind fun g=>.yes (simET rfl rfl rfl (sim_tup g.2.1))
 | .lst l,sc,Γ,x=>wList x fun m p=>(ckEs H l sc Γ m).bind fun g=>.yes (simET rfl rfl rfl (sim_lst g.2.1))
 | .lstM _ l,sc,Γ,x=>wList x fun m p=>(ckEs H l sc Γ m).bind fun g=>.yes (simET rfl rfl rfl (sim_lstM H.O g.2.1))
 | .dictM _ ks l,sc,Γ,x=>wDict x fun m m' p=>(ckKeys ks m).bind fun h=>wb (decide (ks.length = l.length)) fun h2=>(ckEs H l sc Γ m').bind fun g=>.yes (ck_dictM H h h2 g)
 | .sub a b,sc,Γ,x=>wSub x fun y z p=>(ckE H a sc Γ y).bind fun g1=>(ckE H b sc Γ z).bind fun g2=>.yes (simET rfl rfl rfl (sim_sub g2.2.1 g1.e g2.e))
 | .slice a lo hi,sc,Γ,x=>wSub x fun y z p=>(ckE H a sc Γ y).bind fun g1=>wSlice z fun l u st ps=>wn st ((ckO H lo sc Γ l).bind fun g2=>(ckO H hi sc Γ u).bind fun g3=>.yes (simET rfl rfl rfl (sim_slice g1.e g2 g3)))
 | .attr a i,sc,Γ,x=>wAttr x fun y n p=>wq (N.attr i) n (wb (decide (i < 13)) fun h2=>wb (notSuper y) fun h3=>(ckE H a sc Γ y).bind fun g=>.yes (ck_attr H h2 h3 g))
 | .call f l,sc,Γ,x=>wCallN x (N.fn f) fun np m p=>wb (glob sc (N.fn f)) fun h2=>wb (!(N.fn f == Str.empty)) fun h3=>(ckEs H l sc Γ m).bind fun g=>wk (ckCall H f) fun hq=>.yes (simET rfl rfl rfl (sim_call H.O hq H.hfn (not_empty h3) h2 g.2.2.1 g.2.2.2 g.2.1))
 | .meth a k l,sc,Γ,x=>wCallA x (N.meth k) fun y ap m p q1 q2 q3=>(ckE H a sc Γ y).bind fun g=>(ckEs H l sc Γ m).bind fun g1=>wb d.q fun hq=>.yes (simET rfl rfl rfl (sim_meth H.O (H.CO hq) H.hcl H.hme q1 q2 q3 g1.2.2.1 g1.2.2.2 g.e g1.2.1))
 | .new c l,sc,Γ,x=>wCallN x (N.cls c) fun np m p=>wb (glob sc (N.cls c)) fun h2=>(ckEs H l sc Γ m).bind fun g=>wb d.q fun hq=>.yes (simET rfl rfl rfl (sim_new H.O (H.CO hq) H.hne h2 g.2.2.1 g.2.2.2 g.2.1))
 | .isinst a ks,sc,Γ,x=>wCallN x "isinstance" fun np m p=>wb (glob sc "isinstance") fun h2=>w2 m fun y z=>(ckE H a sc Γ y).bind fun g=>ckKs H sc Γ ks np y z p g h2
 | .prim q l,sc,Γ,x=>wCallN x (primName q) fun np m p=>wb d.q fun hq=>wb (glob sc (primName q)) fun h2=>(ckEs H l sc Γ m).bind fun g=>.yes (simET rfl rfl rfl (sim_primA hq H.O h2 g.2.2.1 g.2.2.2 g.2.1))
 | .listM _ a,sc,Γ,x=>wCallN x "list" fun np m p=>wb (glob sc "list") fun h2=>w1 m fun y=>(ckE H a sc Γ y).bind fun g=>.yes (simET rfl rfl rfl (sim_listM H.O h2 g.1 g.e))
 | .dictC _ a,sc,Γ,x=>wCallN x "dict" fun np m p=>wb (glob sc "dict") fun h2=>w1 m fun y=>(ckE H a sc Γ y).bind fun g=>.yes (simET rfl rfl rfl (sim_dictC H.O h2 g.1 g.e))
 | .bm b a l,sc,Γ,x=>wCallA x (bmName b) fun y ap m p q1 q2 q3=>wb (bmUse b) fun h2=>(ckE H a sc Γ y).bind fun g=>(ckEs H l sc Γ m).bind fun g1=>.yes (simET rfl rfl rfl (sim_bm H.O h2 q1 q2 q3 g1.2.2.1 g1.2.2.2 g.e g1.2.1))
 | .comp _ slot range it cond elt,sc,Γ,x=>wComp1 (slot:=slot) (range:=range) x (ckE H it sc Γ) (ckIf H cond) (ckE H elt) fun e i y px ifs scope pos K=>wb d.q fun hq=>.yes (ck_comp hq H K)
noncomputable def ckIf (H:Hyp G N C d):(e:Option E) → (sc:Sc) → (Γ:Gam) → (m:List PySem.Expr) → Ck (CondSim G C d sc Γ e m)
 | none,sc,Γ,m=>w0 m (.yes .none)
 | some c,sc,Γ,m=>w1 m fun x=>(ckE H c sc Γ x).bind fun g=>.yes (.some g.t)
noncomputable def ckO (H:Hyp G N C d):(e:Option E) → (sc:Sc) → (Γ:Gam) → (m:Option PySem.Expr) → Ck (SimO G C d sc Γ e m)
 | none,sc,Γ,m=>wn m (.yes simO_none)
 | some c,sc,Γ,m=>ws m fun x=>(ckE H c sc Γ x).bind fun g=>.yes (simO_some g.e)
noncomputable def ckEs (H:Hyp G N C d):(l:List E) → (sc:Sc) → (Γ:Gam) → (m:List PySem.Expr) → Ck (SimLs G C d sc Γ l m)
 | [],sc,Γ,m=>w0 m (.yes ⟨.nil,sim_es_nil,rfl,rfl⟩)
 | e :: l,sc,Γ,m=>wc m fun x r=>(ckE H e sc Γ x).bind fun g1=>(ckEs H l sc Γ r).bind fun g2=>.yes (ls_cons g1 g2)
end
end
end Mine
end
section
namespace Mine
open PySem PySem.W PyProof.Rows
noncomputable def gamOk (Γ:Gam):Bool:=decide ((Γ.filterMap id).Nodup)
theorem gam_mem:∀ (Γ:Gam) (i:Nat) (y:PySem.Str),Γ[i]? = some (some y) → y ∈ Γ.filterMap id
 | [],i,y,h=>by simp at h
 | a :: Γ,0,y,h=>by simp at h; subst h; simp
 | a :: Γ,i + 1,y,h=>by
  simp only [List.getElem?_cons_succ] at h
  have:=gam_mem Γ i y h
  cases a with
  | none=>simpa using this
  | some z=>simp only [List.filterMap_cons,id]; exact List.mem_cons_of_mem _ this
theorem gamOk_inj:∀ (Γ:Gam),gamOk Γ = true → GamInj Γ
 | [],h=>by intro i j y h; simp at h
 | a :: Γ,h=>by
  have hn:(List.filterMap id (a :: Γ)).Nodup:=by simpa [gamOk] using h
  have h':GamInj Γ:=gamOk_inj Γ (by
   cases a with
   | none=>simpa [gamOk] using hn
   | some z=>simp only [List.filterMap_cons,id] at hn; simpa [gamOk] using (List.nodup_cons.1 hn).2)
  intro i j y hi hj
  match i,j with
  | 0,0=>rfl
  | i + 1,j + 1=>
   simp only [List.getElem?_cons_succ] at hi hj
   exact congrArg Nat.succ (h' i j y hi hj)
  | 0,j + 1 =>
   simp at hi; subst hi
   simp only [List.getElem?_cons_succ] at hj
   simp only [List.filterMap_cons,id] at hn
   exact ((List.nodup_cons.1 hn).1 (gam_mem Γ j y hj)).elim
  | i + 1,0 =>
   simp at hj; subst hj
   simp only [List.getElem?_cons_succ] at hi
   simp only [List.filterMap_cons,id] at hn
   exact ((List.nodup_cons.1 hn).1 (gam_mem Γ i y hi)).elim
section
variable {P:Stmt → Type} [∀ x,No (P x)]
@[elab_as_elim] noncomputable def vExpr (x:Stmt) (f:∀ y p,P (.Expr y p)):P x:=wb (Nat.beq x.ctorIdx 24) fun h=>PySem.Stmt.Expr.elim x (Nat.eq_of_beq_eq_true h) f
@[elab_as_elim] noncomputable def vAssign (x:Stmt) (f:∀ t e p,P (.Assign t e p)):P x:=wb (Nat.beq x.ctorIdx 5) fun h=>PySem.Stmt.Assign.elim x (Nat.eq_of_beq_eq_true h) f
@[elab_as_elim] noncomputable def vIf (x:Stmt) (f:∀ c a b p,P (.If c a b p)):P x:=wb (Nat.beq x.ctorIdx 12) fun h=>PySem.Stmt.If.elim x (Nat.eq_of_beq_eq_true h) f
@[elab_as_elim] noncomputable def vFor (x:Stmt) (f:∀ t i b o p,P (.For t i b o p)):P x:=wb (Nat.beq x.ctorIdx 9) fun h=>PySem.Stmt.For.elim x (Nat.eq_of_beq_eq_true h) f
@[elab_as_elim] noncomputable def vRet (x:Stmt) (f:∀ e p,P (.Return e p)):P x:=wb (Nat.beq x.ctorIdx 3) fun h=>PySem.Stmt.Return.elim x (Nat.eq_of_beq_eq_true h) f
@[elab_as_elim] noncomputable def vSet (x:Stmt) (f:∀ t e p,P (.Assign [t] e p)):P x:=vAssign x fun ts e p=>w1 ts fun t=>f t e p
end
section
variable {G:Gd} {N:Names} {C:Calls} {d:Dp} {n:Nat} {sc:Sc} {Γ:Gam}
noncomputable def ckT (H:Hyp G N C d) (t:T) (x:PySem.Expr):Ck (TgtOk G C d sc Γ t x):=match t with
 | .loc i=>wName x fun y p=>wb (Γ[i]? == some (some y)) fun h1=>wb (kindOk sc y) fun h2=>.yes (.loc (eq_of_beq h1) h2)
 | .item a b=>wSub x fun y z p=>wk (ckE H a sc Γ y) fun g1=>wk (ckE H b sc Γ z) fun g2=>.yes (.item g1.e g2.e)
noncomputable def ckTs (H:Hyp G N C d):(l:List T) → (m:List PySem.Expr) → Ck (TgtsOk G C d sc Γ l m)
 | [],m=>w0 m (.yes .nil)
 | t :: l,m=>wc m fun x r=>wk (ckT H t x) fun h1=>wk (ckTs H l r) fun h2=>.yes (.cons h1 h2)
noncomputable def ckFor (H:Hyp G N C d) (t:T ⊕ List T) (x:PySem.Expr):Ck (ForTgt G C d sc Γ t x):=match t with
 | .inl t=>wk (ckT H t x) fun h=>.yes (.one h)
 | .inr ts=>wTup x fun m k p=>wk (ckTs H ts m) fun h=>.yes (.many h)
theorem s_setattr (H:Hyp G N C d) {a b:E} {i:Nat} {y z:PySem.Expr} {ap p:Pos} (h2:decide (i < 13) = true) (g1:SimET G C d sc Γ a y) (g2:SimET G C d sc Γ b z) :
  SimS G C d sc Γ n (.setattr a i b) (.Assign [.Attribute y (N.attr i) ap] z p):=by
 rw [show N.attr i = G.an i from congrFun H.O.attr i]
 exact simS_setattr H.O H.hcl (of_decide_eq_true h2) g1.e g2.e
theorem s_for (hq:d.q = true) (H:Hyp G N C d) (gi:GamInj Γ) {ts:T ⊕ List T} {range:Bool} {it:E} {body:List S} {y i:PySem.Expr} {m:List Stmt} {p:Pos} (h1:ForTgt G C d sc Γ ts y) (h2:notSet i = true) (h3:ItOk' G C d sc Γ range it i) (h:SimB G C d sc Γ n body m) :
  SimS G C d sc Γ n (.for_ ts range it body) (.For y i m [] p):=by
 obtain ⟨j,h4,h5⟩:=h3
 exact simS_for hq H.O gi h1 h2 h4 h5 h
theorem simS_raise {c:Nat} {x:Stmt}:SimS G C d sc Γ n (.raise c) x:=by
 intro t st s env loc fl loc' st' A hA hT hsc F R e
 cases e
mutual
noncomputable def ckS (H:Hyp G N C d) (gi:GamInj Γ):(s:S) → (x:Stmt) → Ck (SimS G C d sc Γ n s x)
 | .expr a,x=>vExpr x fun y p=>wb (notComp y) fun h1=>wk (ckE H a sc Γ y) fun h=>.yes (simS_expr h1 h.e)
 | .assign i a,x=>vSet x fun t z p=>wName t fun y yp=>wb (Γ[i]? == some (some y)) fun h1=>wb (kindOk sc y) fun h2=>(wb (notComp z) fun h3=>wk (ckE H a sc Γ z) fun h=>.yes (simS_assign gi (eq_of_beq h1) h2 h3 h.e))
 | .setattr a i b,x=>vSet x fun t z p=>wAttr t fun y nm ap=>wq (N.attr i) nm (wb (decide (i < 13)) fun h2=>wk (ckE H a sc Γ y) fun g1=>wk (ckE H b sc Γ z) fun g2=>.yes (s_setattr H h2 g1 g2))
 | .setitem a b c,x=>vSet x fun t z p=>wSub t fun y u ap=>wb (notComp z) fun h1=>wk (ckE H a sc Γ y) fun g1=>wk (ckE H b sc Γ u) fun g2=>wk (ckE H c sc Γ z) fun g3=>.yes (simS_setitem h1 g1.e g2.e g3.e)
 | .unpack ts a,x=>vSet x fun t z p=>wTup t fun m k tp=>wk (ckTs H ts m) fun h1=>wb (plainRhs z) fun h2=>wk (ckE H a sc Γ z) fun g=>wb d.q fun hq=>.yes (simS_unpack hq gi h1 h2 g.e)
 | .ite c b1 b2,x=>vIf x fun y m1 m2 p=>wk (ckE H c sc Γ y) fun g=>wk (ckB H gi b1 m1) fun g1=>wk (ckB H gi b2 m2) fun g2=>.yes (simS_ite g.t g1 g2)
 | .for_ ts range it body,x=>vFor x fun y i m o p=>w0 o (wk (ckFor H ts y) fun h1=>wb (notSet i) fun h2=>wk (ckIt range i (ckE H it sc Γ)) fun h3=>wk (ckB H gi body m) fun h=>wb d.q fun hq=>.yes (s_for hq H gi h1 h2 h3 h))
 | .ret a,x=>vRet x fun y p=>(match a with
   | none=>wn y (.yes simS_ret0)
   | some a=>ws y fun z=>wk (ckE H a sc Γ z) fun g=>.yes (simS_ret g.e))
 | .raise _,x=>.yes simS_raise
noncomputable def ckB (H:Hyp G N C d) (gi:GamInj Γ):(l:List S) → (m:List Stmt) → Ck (SimB G C d sc Γ n l m)
 | [],m=>w0 m (.yes simB_nil)
 | s :: l,m=>wc m fun x r=>wk (ckS H gi s x) fun g1=>wk (ckB H gi l r) fun g2=>.yes (simB_cons g1 g2)
end
end
end Mine
end
section
namespace Mine
open PySem PySem.W PyProof.Rows
theorem zip_lookup:∀ (names:List PySem.Str) (vals:List Value),vals.length = names.length → ∀ x ∈ names,((names.zip vals).lookup x).isSome = true
 | [],vals,h,x,hx=>by simp at hx
 | a :: names,[],h,x,hx=>by simp at h
 | a :: names,v :: vals,h,x,hx=>by
  simp only [List.zip_cons_cons,List.lookup_cons]
  split
  ·rfl
  ·rename_i e
   refine zip_lookup names vals (by simpa using h) x ?_
   rcases List.mem_cons.1 hx with rfl | hx
   ·simp at e
   ·exact hx
theorem fm_congr {α β:Type} {f g:α → Option β}:∀ {l:List α},(∀ x ∈ l,f x = g x) → l.filterMap f = l.filterMap g
 | [],_=>rfl
 | x :: l,h=>by
  have ih:l.filterMap f = l.filterMap g:=fm_congr (l:=l) (fun y hy=>h y (by simp [hy]))
  simp only [List.filterMap_cons,h x (by simp),ih]
theorem zip_fm:∀ (names:List PySem.Str) (vals:List Value),vals.length = names.length → names.Nodup → names.filterMap (fun n=>((names.zip vals).lookup n).map (n,·)) = names.zip vals
 | [],vals,h,nd=>by simp
 | a :: names,[],h,nd=>by simp at h
 | a :: names,v :: vals,h,nd=>by
  obtain ⟨h1,h2⟩:=List.nodup_cons.1 nd
  have ih:=zip_fm names vals (by simpa using h) h2
  simp only [List.zip_cons_cons,List.filterMap_cons,List.lookup_cons,beq_self_eq_true,Option.map_some]
  congr 1
  refine Eq.trans (fm_congr fun x hx=>?_) ih
  have:(x == a) = false:=by
   simp only [beq_eq_false_iff_ne]; rintro rfl; exact h1 hx
  simp only [this]
noncomputable def plainParams (fd:FuncData) (names:List PySem.Str):Bool :=
 fd.params.posonlyargs.isEmpty && fd.params.args.map (·.arg) == names && fd.params.kwonlyargs.isEmpty && fd.params.vararg.isNone && fd.params.kwarg.isNone && (match fd.defaults with | .none=>true | _=>false)
theorem bind_go {fd:FuncData} (vals:List Value) (h1:fd.params.posonlyargs = []) (h3:fd.params.kwonlyargs = []) (h4:fd.params.vararg = none) (h5:fd.params.kwarg = none) (h6:fd.defaults = .none)
  (hl:vals.length = (fd.params.args.map (·.arg)).length) (e1:((fd.params.args.map (·.arg)).filter fun n=>(((fd.params.args.map (·.arg)).zip vals).lookup n).isNone) = [])
  (e2:(fd.params.args.map (·.arg)).filterMap (fun n=>(((fd.params.args.map (·.arg)).zip vals).lookup n).map (n,·)) = (fd.params.args.map (·.arg)).zip vals):bindArgs fd ⟨vals,[]⟩ = pure ((fd.params.args.map (·.arg)).zip vals):=by
 obtain ⟨nm,q,⟨po,pa,va,ko,kd,kw,df⟩,body,sc,g,cl,ds,kds,doc,pm,an,cd,ct,bb⟩:=fd
 cases h1; cases h3; cases h4; cases h5; cases h6
 have hc1:¬ (decide (vals.length > (pa.map (·.arg)).length) && true) = true:=by
  have:¬ (vals.length > (pa.map (·.arg)).length):=by
   have hl:vals.length = (pa.map (·.arg)).length:=hl
   omega
  rw [decide_eq_false this]; exact Bool.noConfusion
 have hc2:¬ (!((pa.map (·.arg)).filter fun n=>(((pa.map (·.arg)).zip vals).lookup n).isNone).isEmpty) = true:=by
  have e1:((pa.map (·.arg)).filter fun n=>(((pa.map (·.arg)).zip vals).lookup n).isNone) = []:=e1
  rw [e1]; exact Bool.noConfusion
 have ht:List.take (pa.map (·.arg)).length (pa.map (·.arg)) = pa.map (·.arg):=List.take_length
 have hd:List.drop ((Option.getD (none:Option (Array Value)) #[]).toList.length - (pa.map (·.arg)).length) (Option.getD (none:Option (Array Value)) #[]).toList = []:=List.drop_nil
 refine Eq.trans (if_neg hc1) (Eq.trans (if_neg ?_) ?_)
 ·intro h
  have h:(!((List.take ((pa.map (·.arg)).length - (List.drop ((Option.getD (none:Option (Array Value)) #[]).toList.length - (pa.map (·.arg)).length) (Option.getD (none:Option (Array Value)) #[]).toList).length) (pa.map (·.arg))).filter fun n=>(((pa.map (·.arg)).zip vals).lookup n).isNone).isEmpty) = true:=h
  rw [hd] at h
  have h:(!((List.take (pa.map (·.arg)).length (pa.map (·.arg))).filter fun n=>(((pa.map (·.arg)).zip vals).lookup n).isNone).isEmpty) = true:=h
  rw [ht] at h
  exact hc2 h
 ·have e2:(pa.map (·.arg)).filterMap (fun n=>(((pa.map (·.arg)).zip vals).lookup n).map (n,·)) = (pa.map (·.arg)).zip vals:=e2
  clear hl e1 hc1 hc2
  simp only [List.map_nil,List.nil_append,hd,List.zip_nil_right,List.append_nil]
  exact congrArg (fun z=>(pure z:Sem (List (PySem.Str × Value)))) e2
theorem bind_plain {fd:FuncData} {names:List PySem.Str} (h:plainParams fd names = true) (nd:names.Nodup) (vals:List Value) (hl:vals.length = names.length):bindArgs fd ⟨vals,[]⟩ = pure (names.zip vals):=by
 obtain ⟨h,h6⟩:=and_ok h
 obtain ⟨h,h5⟩:=and_ok h
 obtain ⟨h,h4⟩:=and_ok h
 obtain ⟨h,h3⟩:=and_ok h
 obtain ⟨h1,h2⟩:=and_ok h
 have h2:fd.params.args.map (·.arg) = names:=eq_of_beq h2
 subst h2
 refine bind_go vals (List.isEmpty_iff.1 h1) (List.isEmpty_iff.1 h3) (Option.isNone_iff_eq_none.1 h4) (Option.isNone_iff_eq_none.1 h5) ?_ hl ?_ (zip_fm _ vals hl nd)
 ·revert h6
  cases fd.defaults <;> first | exact fun _=>rfl | exact fun h=>Bool.noConfusion h
 ·rw [List.filter_eq_nil_iff]
  intro x hx e
  have:=zip_lookup _ vals hl x hx
  rw [Option.isNone_iff_eq_none.1 e] at this; exact no_ft this
set_option genCtorIdx false in
structure Stat (G:Gd) (N:Names):Prop where
 O:G.Ok N
 hcl:∀ c Ca,G.ca c = some Ca → ClsOk G Ca
 hfn:∀ f a,G.fa f = some a → FnOk G N f a
 hme:∀ c k f Ca,G.P.meths c k = some f → G.ca c = some Ca → ∃ a,G.fa f = some a ∧ MethOk G Ca (N.meth k) a
 hne:∀ c k f,G.P.inits c = some (k,f) → ∃ Ca fi,G.ca c = some Ca ∧ G.fa f = some fi ∧ NewOk G N c Ca fi
 xw:∀ y c,N.xs.contains (y,c) = true → c ≠ 0 ∧ OwnX G y c
 xk:∀ c k,(G.P.excBase c).contains c = true → (G.P.excBase c).contains k = true → kitOne G.K (.ref c) (xval k) = some true ∧ (k ≠ 0 → exmOne G.K (.ref c) (.ref k) = some true)
 xm:∀ k c f,N.xm k = true → G.P.meths c k = some f → N.xf f = true
 xi:∀ c k,(G.P.excBase c).contains c = true → (k = 0 ∨ ∃ y,N.xs.contains (y,k) = true) → xcls G.K c = true ∧ kitOne G.K (.ref c) (xval k) = some ((G.P.excBase c).contains k)
noncomputable def ckFn (K:Frag) (N:Names) (fn:Fn) (a:Addr):Bool :=
 match K.lookup a with
 | some o=>(match o.data with
  | .func fd=>codeIn K fd.code fd.qualname && fd.closure.isEmpty && fd.globals == mainGlobals && fd.builtins == builtinsNs && fd.scope.kind == .function && !fd.scope.isCoroutine && !fd.scope.isGenerator &&
   plainParams fd (fn.names.take fn.np) && decide (fn.np ≤ fn.names.length) && (fn.names.take fn.np).all (fun x=>kindOk fd.scope.names x && !(x == Str.empty)) && decide (fn.names.take fn.np).Nodup && gamOk (gam0 fn) && (match fd.body with | .stmts _=>true | _=>false)
  | _=>false)
 | none=>false
noncomputable def fnBody (K:Frag) (a:Addr):Option (Sc × List Stmt):=(K.lookup a).bind fun o=>match o.data with
 | .func fd=>(match fd.body with
  | .stmts body=>some (fd.scope.names,body)
  | _=>none)
 | _=>none
noncomputable def bodyYes {G:Gd} {N:Names} {C:Calls} {d:Dp} (n:Nat) (H:Hyp G N C d) (fn:Fn) (p:Sc × List Stmt):Bool:=(wb (gamOk (gam0 fn)) fun hg=>ckB (sc:=p.1) (n:=n) H (gamOk_inj (gam0 fn) hg) fn.body p.2).isYes
noncomputable def ckBody (K:Frag) {G:Gd} {N:Names} {C:Calls} {d:Dp} (n:Nat) (H:Hyp G N C d) (fn:Fn) (a:Addr):Bool:=(fnBody K a).any (bodyYes n H fn)
theorem fnHd_of {G:Gd} {N:Names} {fn:Fn} {a:Addr} (h:ckFn G.K N fn a = true):∃ fd body,FnHd G fn a fd body ∧ fnBody G.K a = some (fd.scope.names,body):=by
 unfold ckFn at h; split at h
 ·rename_i o ho
  split at h
  ·rename_i fd hd
   simp only [Bool.and_eq_true,List.isEmpty_iff,beq_iff_eq,Bool.not_eq_true',decide_eq_true_eq,List.all_eq_true,beq_eq_false_iff_ne] at h
   obtain ⟨⟨⟨⟨⟨⟨⟨⟨⟨⟨⟨⟨h1,h2⟩,h3⟩,h4⟩,h5⟩,h6⟩,h7⟩,h8⟩,h9⟩,h10⟩,h11⟩,h12⟩,h13⟩:=h
   cases hy:fd.body with
   | stmts body =>
    have e:fnBody G.K a = some (fd.scope.names,body):=by unfold fnBody; rw [ho]; show (match o.data with | .func fd=>_ | _=>none) = _; rw [hd]; show (match fd.body with | .stmts body=>_ | _=>none) = _; rw [hy]
    exact ⟨fd,body,⟨o,ho,hd,h1,hy,h2,h3,h4,h5,h6,h7,fun vals hv=>bind_plain h8 h11 vals (by rw [hv,List.length_take]; lia),h9,h10,h11⟩,e⟩
   | _=>rw [hy] at h13; exact no_ft h13
  ·exact no_ft h
 ·exact no_ft h
theorem Stat.hyp {G:Gd} {N:Names} (S:Stat G N) {C:Calls} {n:Nat} (CA:CallsA G N.xf N.qf C n):Hyp G N C ⟨n,true⟩:=⟨S.O,fun _=>CA.ok,S.hcl,S.hfn,S.hme,S.hne,S.xw,S.xk,S.xm,S.xi,fun _=>CA.x,CA.q⟩
theorem Stat.hypQ {G:Gd} {N:Names} (S:Stat G N) {C:Calls} {n:Nat} (CQ:CallsQ G C n N.qf):Hyp G N C ⟨n,false⟩:=⟨S.O,nofun,S.hcl,S.hfn,S.hme,S.hne,S.xw,S.xk,S.xm,S.xi,nofun,CQ⟩
theorem fnRec_of {G:Gd} {N:Names} {q:Bool} {PX:Calls → Nat → Prop} (S:∀ C n,PX C n → Hyp G N C ⟨n,q⟩) {fn:Fn} {a:Addr} (h:ckFn G.K N fn a = true) (hb:∀ C n (H:Hyp G N C ⟨n,q⟩),ckBody G.K n H fn a = true):FnRec G q PX fn a:=by
 obtain ⟨fd,body,hd,e⟩:=fnHd_of h
 refine ⟨fd,body,hd,fun C n CA=>?_⟩
 have g:=hb C n (S C n CA)
 unfold ckBody at g; rw [e] at g
 exact Ck.get g
end Mine
end
section
namespace Mine
theorem bits_small (y:Int) (h0:0 ≤ y) (h:y < 18446744073709551616):intBits y ≤ 64:=by
 unfold intBits
 split
 ·lia
 ·have h1:y.natAbs ≠ 0:=by lia
  have:y.natAbs.log2 < 64:=(Nat.log2_lt h1).2 (by lia)
  lia
theorem b_mulR (x y:Int) (s:MS) (h0:0 ≤ y) (h:y < 18446744073709551616):binOp .mul (.int x) (.int y) s = .ok (.int (x * y)) s :=
 if_pos (by rw [mulOk,decide_eq_true (bits_small y h0 h),Bool.or_true,Bool.true_or])
theorem b_mulL (x y:Int) (s:MS) (h0:0 ≤ x) (h:x < 18446744073709551616):binOp .mul (.int x) (.int y) s = .ok (.int (x * y)) s :=
 if_pos (by rw [mulOk,decide_eq_true (bits_small x h0 h),Bool.true_or,Bool.true_or])
theorem b_str (x y:List Nat) (s:MS) (h:x.length + y.length ≤ 16777216):binOp .add (.str x) (.str y) s = .ok (.str (x ++ y)) s:=if_pos h
theorem c_neI (x y:Int) (s:MS):cmpOp .ne (.int x) (.int y) s = .ok (.bool (!decide (x = y))) s:=rfl
theorem r_bind_ok {α β:Type} (a:α) (s:MS) (f:α → MS → Res β):(Res.ok a s).bind f = f a s:=rfl
theorem idx_ok {i:Int} {n:Nat} (h0:0 ≤ i) (h:i < n):idx i n = some i.toNat:=(if_pos h0).trans (if_pos h)
theorem i_str (x:List Nat) (i:Int) (s:MS) (h0:0 ≤ i) (h:i < x.length) (g:x.length ≤ 16777216):getItem (.str x) (.int i) s = .ok (.str [x[i.toNat]'(by lia)]) s:=by
 refine (if_pos g).trans ?_
 rw [idx_ok h0 h]
 show okV s ((x[i.toNat]?).map _) = _
 rw [List.getElem?_eq_getElem (by lia)]; rfl
theorem comp_map (s₀ s:MS) (range:Bool) (src:V) (slot:Nat) (elt:Loc → MS → Res V) (l:Loc) (f:V → V)
  (hs:stays s₀ s range src = true) :
  ∀ (xs acc:List V) ,(∀ x ∈ xs,elt (l.set slot (some x)) s = .ok (f x) s) → acc.length + xs.length ≤ sizeMax →
   compLoop s₀ range src slot none elt l acc xs s = .ok (acc ++ xs.map f) s
 | [],acc,h,g=>by simp [compLoop_nil,compLoop_cons,hs]
 | x :: r,acc,h,g=>by
  have ih:=comp_map s₀ s range src slot elt l f hs r (acc ++ [f x]) (fun y hy=>h y (by simp [hy])) (by simp at g ⊢; omega)
  have hx:=h x (by simp)
  have g':acc.length < sizeMax:=by simp at g; omega
  simp [compLoop_nil,compLoop_cons,hs,r_bind_ok,hx,g',ih]
theorem comp_fm (s₀ s:MS) (range:Bool) (src:V) (slot:Nat) (c elt:Loc → MS → Res V) (l:Loc) (p:V → Bool) (f:V → V) (hs:stays s₀ s range src = true) :
  ∀ (xs acc:List V),(∀ x ∈ xs,c (l.set slot (some x)) s = .ok (.bool (p x)) s) → (∀ x ∈ xs,p x = true → elt (l.set slot (some x)) s = .ok (f x) s) → acc.length + xs.length ≤ sizeMax →
   compLoop s₀ range src slot (some c) elt l acc xs s = .ok (acc ++ (xs.filter p).map f) s
 | [],acc,_,_,_=>by rw [List.filter_nil,List.map_nil,List.append_nil]; exact if_pos hs
 | x :: r,acc,h1,h2,g=>by
  have g1:acc.length < sizeMax:=by rw [List.length_cons] at g; lia
  refine (if_pos hs).trans ?_
  show Res.bind (Res.bind (c (l.set slot (some x)) s) truth) _ = _
  rw [h1 x (List.mem_cons_self ..)]
  show (if p x = true then Res.bind (elt (l.set slot (some x)) s) (fun v s=>if acc.length < sizeMax then compLoop s₀ range src slot (some c) elt l (acc ++ [v]) r s else .stuck) else compLoop s₀ range src slot (some c) elt l acc r s) = _
  rw [List.filter_cons]
  cases hp:p x with
  | true =>
   rw [if_pos rfl,if_pos rfl,h2 x (List.mem_cons_self ..) hp]
   show (if acc.length < sizeMax then _ else _) = _
   rw [if_pos g1,comp_fm s₀ s range src slot c elt l p f hs r _ (fun y hy=>h1 y (List.mem_cons_of_mem _ hy)) (fun y hy=>h2 y (List.mem_cons_of_mem _ hy)) (by rw [List.length_append]; show acc.length + 1 + _ ≤ _; rw [List.length_cons] at g; lia),List.append_assoc]
   rfl
  | false =>
   rw [if_neg Bool.false_ne_true,if_neg Bool.false_ne_true]
   exact comp_fm s₀ s range src slot c elt l p f hs r acc (fun y hy=>h1 y (List.mem_cons_of_mem _ hy)) (fun y hy=>h2 y (List.mem_cons_of_mem _ hy)) (by rw [List.length_cons] at g; lia)
theorem items_range (s:MS) (n:Int) (h0:0 ≤ n) (h:n ≤ 16777216):itemsOf s true (.int n) = some ((List.range n.toNat).map fun (i:Nat)=>.int i):=if_pos ⟨Int.le_trans (by decide) h0,h⟩
theorem stays_range (s₀ s:MS) (v:V):stays s₀ s true v = true:=rfl
noncomputable def OkR {α:Type} (r:Res α) (Q:α → MS → Prop):Prop:=match r with
 | .ok a s=>Q a s
 | _=>False
theorem okr_ok {α:Type} (a:α) (s:MS) (Q:α → MS → Prop):OkR (.ok a s) Q = Q a s:=rfl
theorem okr_bnd {α β:Type} (r:Res α) (f:α → MS → Res β) (Q:β → MS → Prop):OkR (r.bnd f) Q = OkR r (fun a s=>OkR (f a s) Q):=by
 cases r <;> rfl
theorem okr_bind {α β:Type} (r:Res α) (f:α → MS → Res β) (Q:β → MS → Prop):OkR (r.bind f) Q = OkR r (fun a s=>OkR (f a s) Q):=by
 cases r <;> rfl
theorem okr_mono {α:Type} {r:Res α} {Q R:α → MS → Prop} (h:OkR r Q) (g:∀ a s,Q a s → R a s):OkR r R:=by
 cases r with
 | ok a s=>exact g a s h
 | _=>exact h.elim
theorem okr_elim {α:Type} {r:Res α} {Q:α → MS → Prop} (h:OkR r Q):∃ a s,r = .ok a s ∧ Q a s:=by
 cases r with
 | ok a s=>exact ⟨a,s,rfl,h⟩
 | _=>exact h.elim
theorem okr_of {α:Type} {r:Res α} {a:α} {s:MS} {Q:α → MS → Prop} (h:r = .ok a s) (k:Q a s):OkR r Q:=by rw [h]; exact k
theorem okr_eq {α:Type} {r:Res α} {a:α} {s:MS} (h:OkR r (fun b t=>b = a ∧ t = s)):r = .ok a s:=by
 cases r with
 | ok b t=>obtain ⟨rfl,rfl⟩:=h; rfl
 | _=>exact h.elim
noncomputable def flV:Fl → V
 | .ret v=>v
 | .next=>.none
theorem okr_run {P:Prog} {n f:Nat} {vs:List V} {s:MS} {fn:Fn} {Q:V → MS → Prop} (hf:P.fns f = some fn) (hl:vs.length = fn.np)
  (h:OkR (exs P (run P n) n fn.body (vs.map some ++ List.replicate (fn.names.length - fn.np) none) s) (fun p s=>Q (flV p.1) s)):OkR (run P (n + 1) f vs s) Q:=by
 simp only [run,hf,if_pos hl,okr_bind]
 exact h
noncomputable def seqQ (P:Prog) (C:Calls) (n:Nat) (r:List S) (Q:Fl × Loc → MS → Prop) (p:Fl × Loc) (s:MS):Prop :=
 match p.1 with
 | .next=>OkR (exs P C n r p.2 s) Q
 | .ret v=>Q (.ret v,p.2) s
theorem seqQ_next (P:Prog) (C:Calls) (n:Nat) (r:List S) (Q:Fl × Loc → MS → Prop) (l:Loc) (s:MS):seqQ P C n r Q (.next,l) s = OkR (exs P C n r l s) Q:=rfl
theorem okr_cons (P:Prog) (C:Calls) (n:Nat) (st:S) (r:List S) (l:Loc) (s:MS) (Q:Fl × Loc → MS → Prop) :
  OkR (exs P C n (st :: r) l s) Q = OkR (ex P C n st l s) (seqQ P C n r Q):=by
 simp only [exs_cons,okr_bind]
 congr 1
 funext p s
 obtain ⟨f,l⟩:=p
 cases f <;> rfl
theorem okr_for {s₀:MS} {range:Bool} {src:V} {tgt:V → Loc → MS → Res Loc} {body:Loc → MS → Res (Fl × Loc)} {Q:Fl × Loc → MS → Prop}
  (I:List V → Loc → MS → Prop)
  (hc:∀ x r l s,I (x :: r) l s → stays s₀ s range src = true ∧ OkR (tgt x l s) fun l s=>OkR (body l s) fun p s=>match p.1 with
   | .next=>I r p.2 s
   | .ret v=>Q (.ret v,p.2) s)
  (hn:∀ l s,I [] l s → stays s₀ s range src = true ∧ Q (.next,l) s) :
  ∀ (xs:List V) (l:Loc) (s:MS),I xs l s → OkR (forLoop s₀ range src tgt body xs l s) Q
 | [],l,s,h=>by
  obtain ⟨h1,h2⟩:=hn l s h
  simp only [forLoop_nil,forLoop_cons,h1,if_true,okr_ok]
  exact h2
 | x :: r,l,s,h=>by
  obtain ⟨h1,h2⟩:=hc x r l s h
  simp only [forLoop_nil,forLoop_cons,h1,if_true,okr_bind,okr_bnd]
  refine okr_mono h2 fun l s h=>okr_mono h fun p s h=>?_
  obtain ⟨f,l⟩:=p
  cases f with
  | next=>exact okr_for I hc hn r l s h
  | ret v=>exact h
theorem okr_compF {s₀ s:MS} {range:Bool} {src:V} {slot:Nat} {elt:Loc → MS → Res V} {l:Loc} {xs:List V} {Q:List V → MS → Prop} (f:V → V)
  (hs:stays s₀ s range src = true) (hl:xs.length ≤ sizeMax)
  (he:∀ x ∈ xs,OkR (elt (l.set slot (some x)) s) fun v t=>v = f x ∧ t = s)
  (hq:Q (xs.map f) s):OkR (compLoop s₀ range src slot none elt l [] xs s) Q:=by
 have h1:=comp_map s₀ s range src slot elt l f hs xs [] (fun x hx=>okr_eq (he x hx)) (by simpa using hl)
 simp only [h1,okr_ok,List.nil_append]
 exact hq
theorem keyEq_str {a:V} {k:List Nat} (h:keyEq a (.str k) = true):a = .str k:=by
 cases a with
 | str x=>rw [of_decide_eq_true (h:decide (x = k) = true)]
 | _=>exact no_ft h
theorem keyEq_ne {k k':List Nat} (h:¬ k' = k):keyEq (.str k) (.str k') = false:=decide_eq_false fun e=>h e.symm
theorem keyEq_rfl (k:List Nat):keyEq (.str k) (.str k) = true:=decide_eq_true rfl
theorem dfind_hit {k a v:V} {r:List (V × V)} (h:keyEq a k = true):dfind k ((a,v) :: r) = some v:=if_pos h
theorem dfind_miss {k a v:V} {r:List (V × V)} (h:keyEq a k = false):dfind k ((a,v) :: r) = dfind k r:=if_neg (by rw [h]; exact Bool.false_ne_true)
theorem dput_hit {k a v w:V} {r:List (V × V)} (h:keyEq a k = true):dput k v ((a,w) :: r) = (a,v) :: r:=if_pos h
theorem dput_miss {k a v w:V} {r:List (V × V)} (h:keyEq a k = false):dput k v ((a,w) :: r) = (a,w) :: dput k v r:=if_neg (by rw [h]; exact Bool.false_ne_true)
theorem dfind_dput (k k':List Nat) (v:V):∀ d:List (V × V),dfind (.str k') (dput (.str k) v d) = if k' = k then some v else dfind (.str k') d
 | []=>by
  by_cases h:k' = k
  ·subst h; rw [if_pos rfl]; exact dfind_hit (keyEq_rfl _)
  ·rw [if_neg h]; exact dfind_miss (keyEq_ne h)
 | (a,w) :: r=>by
  have ih:=dfind_dput k k' v r
  cases h1:keyEq a (.str k) with
  | true =>
   cases keyEq_str h1
   rw [dput_hit h1]
   by_cases h:k' = k
   ·subst h; rw [if_pos rfl]; exact dfind_hit h1
   ·rw [if_neg h,dfind_miss (keyEq_ne h),dfind_miss (keyEq_ne h)]
  | false =>
   rw [dput_miss h1]
   cases h2:keyEq a (.str k') with
   | true =>
    cases keyEq_str h2
    rw [dfind_hit h2,dfind_hit h2,if_neg]
    rintro rfl
    rw [h1] at h2; exact no_ft h2
   | false=>rw [dfind_miss h2,dfind_miss h2,ih]
theorem dput_len (k v:V):∀ d:List (V × V),(dput k v d).length ≤ d.length + 1
 | []=>by simp [dput]
 | (a,w) :: r=>by
  have ih:=dput_len k v r
  simp only [dput]
  split <;> simp <;> omega
theorem dict_at {s:MS} {r:Lbl} {d:List (V × V)} (h:s.heap r = some (.dict d)):dictAt (.ref r) s = some (r,d):=by
 show (match s.heap r with | some (.dict l)=>some (r,l) | _=>none) = _
 rw [h]
theorem list_at {s:MS} {r:Lbl} {l:List V} (h:s.heap r = some (.list l)):listAt (.ref r) s = some (r,l):=by
 show (match s.heap r with | some (.list l)=>some (r,l) | _=>none) = _
 rw [h]
theorem list_no {s:MS} {r:Lbl} {d:List (V × V)} (h:s.heap r = some (.dict d)):listAt (.ref r) s = none:=by
 show (match s.heap r with | some (.list l)=>some (r,l) | _=>none) = _
 rw [h]
theorem setItem_dict (s:MS) (r:Lbl) (d:List (V × V)) (k:List Nat) (v:V) (h:s.heap r = some (.dict d)) (hl:d.length < 16777216) :
  setItem (.ref r) (.str k) v s = .ok () (s.put r (.dict (dput (.str k) v d))):=by
 rw [setItem,list_no h,dict_at h]
 exact if_pos ⟨rfl,hl⟩
theorem append_at (s:MS) (r:Lbl) (l:List V) (v:V) (h:s.heap r = some (.list l)) (hl:l.length < 16777216) :
  bmeth .append (.ref r) [v] s = .ok .none (s.put r (.list (l ++ [v]))):=by
 show (match listAt (.ref r) s with | some p=>if p.2.length < sizeMax then Res.ok V.none (s.put p.1 (.list (p.2 ++ [v]))) else .stuck | none=>.stuck) = _
 rw [list_at h]
 exact if_pos hl
theorem i_dict (s:MS) (r:Lbl) (d:List (V × V)) (k:List Nat) (v:V) (h:s.heap r = some (.dict d)) (hk:dfind (.str k) d = some v) :
  getItem (.ref r) (.str k) s = .ok v s:=by
 show (match s.heap r with | some (.dict l)=>if (V.str k).isKey then okV s (dfind (.str k) l) else .stuck | _=>.stuck) = _
 rw [h]
 show okV s (dfind (.str k) d) = _
 rw [hk]; rfl
theorem get_dict (s:MS) (r:Lbl) (d:List (V × V)) (k:List Nat) (v:V) (h:s.heap r = some (.dict d)) :
  bmeth .get (.ref r) [.str k,v] s = .ok ((dfind (.str k) d).getD v) s:=by
 show (match dictAt (.ref r) s with | some p=>if (V.str k).isKey then Res.ok ((dfind (.str k) p.2).getD v) s else .stuck | none=>.stuck) = _
 rw [dict_at h]; rfl
theorem zip_refl (f:V → V → Option Bool):∀ l:List V,(∀ x ∈ l,f x x = some true) → zipAll f l l = some true
 | [],_=>rfl
 | x :: r,h=>by
  have h1:=h x (by simp)
  have h2:=zip_refl f r (fun y hy=>h y (by simp [hy]))
  simp [zipAll,h1,h2]
theorem b_lst (x y:List V) (s:MS) (h:x.length + y.length ≤ 16777216):binOp .add (.lst x) (.lst y) s = .ok (.lst (x ++ y)) s:=if_pos ⟨rfl,h⟩
noncomputable def st0:MS:=⟨fun _=>none,fun _=>0,0⟩
section
variable {P:Prog} {C:Calls} {n i:Nat} {e a b:E} {r:List S} {l:Loc} {s s':MS} {v w:V} {Q:Fl × Loc → MS → Prop}
theorem st_nil (k:Q (.next,l) s):OkR (exs P C n [] l s) Q:=k
theorem st_next (k:OkR (exs P C n r l s) Q):OkR (exs P C n [] l s) (seqQ P C n r Q):=k
theorem st_assign (hv:ev P C e l s = .ok v s') (hi:decide (i < l.length) = true) (k:OkR (exs P C n r (l.set i (some v)) s') Q):OkR (exs P C n (.assign i e :: r) l s) Q:=by
 have hi:=of_decide_eq_true hi
 rw [exs_cons,okr_bind,ex_assign,okr_bnd,hv]
 show OkR (if i < l.length then Res.ok (Fl.next,l.set i (some v)) s' else .stuck) _
 rw [if_pos hi]; exact k
theorem st_assignQ {R:V → MS → Prop} (hv:OkR (ev P C e l s) R) (hi:decide (i < l.length) = true) (k:∀ v s',R v s' → OkR (exs P C n r (l.set i (some v)) s') Q):OkR (exs P C n (.assign i e :: r) l s) Q:=by
 obtain ⟨v,s',h1,h2⟩:=okr_elim hv
 exact st_assign h1 hi (k v s' h2)
theorem st_ret (hv:ev P C e l s = .ok v s') (k:Q (.ret v,l) s'):OkR (exs P C n (.ret (some e) :: r) l s) Q:=by
 rw [exs_cons,okr_bind,ex_ret]
 show OkR ((ev P C e l s).bnd _) _
 rw [hv]; exact k
theorem st_retQ {R:V → MS → Prop} (hv:OkR (ev P C e l s) R) (k:∀ v s',R v s' → Q (.ret v,l) s'):OkR (exs P C n (.ret (some e) :: r) l s) Q:=by
 obtain ⟨v,s',h1,h2⟩:=okr_elim hv
 exact st_ret h1 (k v s' h2)
theorem st_ret0 (k:Q (.ret .none,l) s):OkR (exs P C n (.ret none :: r) l s) Q:=k
theorem st_if {c:E} {b1 b2:List S} {t:Bool} (hc:ev P C c l s = .ok (.bool t) s') (k:OkR (exs P C n (if t then b1 else b2) l s') (seqQ P C n r Q)):OkR (exs P C n (.ite c b1 b2 :: r) l s) Q:=by
 rw [okr_cons,ex_ite,hc]
 cases t <;> exact k
theorem st_expr (hv:ev P C e l s = .ok v s') (k:OkR (exs P C n r l s') Q):OkR (exs P C n (.expr e :: r) l s) Q:=by
 rw [exs_cons,okr_bind,ex_expr,hv]; exact k
theorem st_exprQ {R:V → MS → Prop} (hv:OkR (ev P C e l s) R) (k:∀ v s',R v s' → OkR (exs P C n r l s') Q):OkR (exs P C n (.expr e :: r) l s) Q:=by
 obtain ⟨v,s',h1,h2⟩:=okr_elim hv
 exact st_expr h1 (k v s' h2)
theorem st_setitem {x y:V} {s1 s2 s3:MS} (h1:ev P C e l s = .ok v s1) (h2:ev P C a l s1 = .ok x s2) (h3:ev P C b l s2 = .ok y s3) (h4:setItem x y v s3 = .ok () s') (k:OkR (exs P C n r l s') Q):OkR (exs P C n (.setitem a b e :: r) l s) Q:=by
 rw [exs_cons,okr_bind,ex_setitem,h1]
 show OkR (Res.bnd (ev P C a l s1) _) _
 rw [h2]
 show OkR (Res.bnd (ev P C b l s2) _) _
 rw [h3]
 show OkR (Res.bnd (setItem x y v s3) _) _
 rw [h4]; exact k
theorem st_setattr {x:V} {s1 s2:MS} (h1:ev P C e l s = .ok v s1) (h2:ev P C a l s1 = .ok x s2) (h3:setAttr x i v s2 = .ok () s') (k:OkR (exs P C n r l s') Q):OkR (exs P C n (.setattr a i e :: r) l s) Q:=by
 rw [exs_cons,okr_bind,ex_setattr,h1]
 show OkR (Res.bnd (ev P C a l s1) _) _
 rw [h2]
 show OkR (Res.bnd (setAttr x i v s2) _) _
 rw [h3]; exact k
theorem st_unpack {ts:List T} {l':Loc} {s1:MS} (h1:ev P C e l s = .ok v s1) (h2:unpackT P C ts v l s1 = .ok l' s') (k:OkR (exs P C n r l' s') Q):OkR (exs P C n (.unpack ts e :: r) l s) Q:=by
 rw [exs_cons,okr_bind,ex_unpack,h1]
 show OkR (Res.bnd (unpackT P C ts v l s1) _) _
 rw [h2]; exact k
theorem st_for {ts:T ⊕ List T} {range:Bool} {body:List S} {xs:List V} (h1:ev P C e l s = .ok v s') (h2:itemsOf s' range v = some xs) (h3:forOk ts range v s' = true)
  (k:OkR (forLoop s' range v (setTT P C ts) (exs P C n body) xs l s') (seqQ P C n r Q)):OkR (exs P C n (.for_ ts range e body :: r) l s) Q:=by
 rw [okr_cons,ex_for,h1]
 show OkR (match itemsOf s' range v with | some xs=>_ | none=>_) _
 rw [h2]
 show OkR (if forOk ts range v s' = true then _ else _) _
 rw [if_pos h3]; exact k
theorem e_call {f:Nat} {es:List E} {vs:List V} {s1:MS} (h1:evL P C es l s = .ok vs s1) (h2:C f vs s1 = .ok v s'):ev P C (.call f es) l s = .ok v s':=by
 rw [ev_call,h1]; exact h2
theorem e_callQ {f:Nat} {es:List E} {vs:List V} {s1:MS} {R:V → MS → Prop} (h1:evL P C es l s = .ok vs s1) (h2:OkR (C f vs s1) R):OkR (ev P C (.call f es) l s) R:=by
 rw [ev_call,h1]; exact h2
theorem e_compQ {slot:Nat} {range:Bool} {cond:Option E} {src:V} {xs:List V} {s1:MS} {R:V → MS → Prop} (h1:ev P C a l s = .ok src s1) (h2:itemsOf s1 range src = some xs) (h3:OkR (compLoop s1 range src slot (evC P C cond) (ev P C e) l [] xs s1) (fun vs t=>R (.lst vs) t)) :
  OkR (ev P C (.comp none slot range a cond e) l s) R:=by
 rw [ev_comp,h1]
 show OkR (match itemsOf s1 range src with | some xs=>_ | none=>_) _
 rw [h2]
 show OkR (Res.bind _ _) _
 rw [okr_bind]; exact h3
theorem e_bin {o:Bop} {x y:V} {s1 s2:MS} (h1:ev P C a l s = .ok x s1) (h2:ev P C b l s1 = .ok y s2) (h3:binOp o x y s2 = .ok v s'):ev P C (.bin o a b) l s = .ok v s':=by
 rw [ev_bin,h1]
 show Res.bind (ev P C b l s1) _ = _
 rw [h2]; exact h3
theorem e_sub {x y:V} {s1 s2:MS} (h1:ev P C a l s = .ok x s1) (h2:ev P C b l s1 = .ok y s2) (h3:getItem x y s2 = .ok v s'):ev P C (.sub a b) l s = .ok v s':=by
 rw [ev_sub,h1]
 show Res.bind (ev P C b l s1) _ = _
 rw [h2]; exact h3
theorem e_slice {lo hi:Option E} {x:V} {y z:Option V} {s1 s2 s3:MS} (h1:ev P C a l s = .ok x s1) (h2:evO P C lo l s1 = .ok y s2) (h3:evO P C hi l s2 = .ok z s3) (h4:getSlice x y z s3 = .ok v s'):ev P C (.slice a lo hi) l s = .ok v s':=by
 rw [ev_slice,h1]
 show Res.bind (evO P C lo l s1) _ = _
 rw [h2]
 show Res.bind (evO P C hi l s2) _ = _
 rw [h3]; exact h4
theorem e_isinst {ks:List Kind} {x:V} {t:Bool} {s1:MS} (h1:ev P C a l s = .ok x s1) (h2:isKinds P s1 x ks = some t):ev P C (.isinst a ks) l s = .ok (.bool t) s1:=by
 rw [ev_isinst,h1]
 show okB s1 (isKinds P s1 x ks) = _
 rw [h2]; rfl
theorem e_cmp {o:Cop} {x y:V} {s1 s2:MS} (h1:ev P C a l s = .ok x s1) (h2:ev P C b l s1 = .ok y s2) (h3:cmpOp o x y s2 = .ok v s'):ev P C (.cmp a o b) l s = .ok v s':=by
 rw [ev_cmp,h1]
 show Res.bind (ev P C b l s1) _ = _
 rw [h2]; exact h3
theorem e_or2 {t u:Bool} {s1:MS} (h1:ev P C a l s = .ok (.bool t) s1) (h2:t = false → ev P C b l s1 = .ok (.bool u) s1):ev P C (.or [a,b]) l s = .ok (.bool (t || u)) s1:=by
 rw [ev_or,evOr_cons,h1]
 cases t with
 | true=>rfl
 | false=>exact h2 rfl
theorem e_and1 {q:Res V} (h:ev P C a l s = q):ev P C (.and [a]) l s = q:=by rw [ev_and,evAnd_one]; exact h
theorem e_andT {es:List E} {s1:MS} {q:Res V} (h1:ev P C a l s = .ok (.bool true) s1) (h2:ev P C (.and (b :: es)) l s1 = q):ev P C (.and (a :: b :: es)) l s = q:=by
 rw [ev_and] at h2 ⊢
 rw [evAnd_cons,h1]; exact h2
theorem e_andF {es:List E} {s1:MS} (h1:ev P C a l s = .ok (.bool false) s1):ev P C (.and (a :: b :: es)) l s = .ok (.bool false) s1:=by
 rw [ev_and,evAnd_cons,h1]; rfl
theorem e_or1 {q:Res V} (h:ev P C a l s = q):ev P C (.or [a]) l s = q:=by rw [ev_or,evOr_one]; exact h
theorem e_orF {es:List E} {s1:MS} {q:Res V} (h1:ev P C a l s = .ok (.bool false) s1) (h2:ev P C (.or (b :: es)) l s1 = q):ev P C (.or (a :: b :: es)) l s = q:=by
 rw [ev_or] at h2 ⊢
 rw [evOr_cons,h1]; exact h2
theorem e_not {t:Bool} {s1:MS} (h1:ev P C a l s = .ok (.bool t) s1):ev P C (.not a) l s = .ok (.bool (!t)) s1:=by
 rw [ev_not,h1]; rfl
theorem e_attr {x:V} {s1:MS} (h1:ev P C a l s = .ok x s1) (h2:getAttr x i s1 = .ok v s'):ev P C (.attr a i) l s = .ok v s':=by
 rw [ev_attr,h1]; exact h2
theorem e_isN {g t:Bool} {s1:MS} (h1:ev P C a l s = .ok v s1) (h2:decide (v = .none) = t):ev P C (.isC g a .none) l s = .ok (.bool (t != g)) s1:=by
 rw [ev_isC,h1,← h2]; rfl
theorem e_newQ {c:Nat} {es:List E} {vs:List V} {s1:MS} {R:V → MS → Prop} (h1:evL P C es l s = .ok vs s1) (h2:OkR (makeInst P C c vs s1) R):OkR (ev P C (.new c es) l s) R:=by
 rw [ev_new,h1]; exact h2
theorem e_lst {es:List E} {vs:List V} {s1:MS} (h1:evL P C es l s = .ok vs s1) (hn:decide (vs.length ≤ sizeMax) = true):ev P C (.lst es) l s = .ok (.lst vs) s1:=by
 rw [ev_lst,h1]; exact if_pos (of_decide_eq_true hn)
theorem e_tup {es:List E} {vs:List V} {s1:MS} (h1:evL P C es l s = .ok vs s1) (hn:decide (vs.length ≤ sizeMax) = true):ev P C (.tup es) l s = .ok (.tup vs) s1:=by
 rw [ev_tup,h1]; exact if_pos (of_decide_eq_true hn)
theorem e_prim {p:Prim} {es:List E} {vs:List V} {s1:MS} (h1:evL P C es l s = .ok vs s1) (h2:prim p vs s1 = .ok v s'):ev P C (.prim p es) l s = .ok v s':=by
 rw [ev_prim,h1]; exact h2
theorem e_primQ {p:Prim} {R R':V → MS → Prop} (h1:OkR (ev P C e l s) R') (h2:∀ v s',R' v s' → OkR (prim p [v] s') R):OkR (ev P C (.prim p [e]) l s) R:=by
 obtain ⟨v,s',h3,h4⟩:=okr_elim h1
 rw [ev_prim,evL_cons,h3]; exact h2 v s' h4
theorem e_bmQ1 {m:Bm} {x:V} {s1:MS} {R R':V → MS → Prop} (h1:ev P C a l s = .ok x s1) (h0:bmOk m x s1 = true) (h2:OkR (ev P C e l s1) R') (h3:∀ v s',R' v s' → OkR (bmeth m x [v] s') R):OkR (ev P C (.bm m a [e]) l s) R:=by
 obtain ⟨v,s',h4,h5⟩:=okr_elim h2
 rw [ev_bm,h1]
 show OkR (if bmOk m x s1 = true then _ else _) _
 rw [if_pos h0,evL_cons,h4]; exact h3 v s' h5
theorem e_bm {m:Bm} {es:List E} {x:V} {vs:List V} {s1 s2:MS} (h1:ev P C a l s = .ok x s1) (h0:bmOk m x s1 = true) (h2:evL P C es l s1 = .ok vs s2) (h3:bmeth m x vs s2 = .ok v s'):ev P C (.bm m a es) l s = .ok v s':=by
 rw [ev_bm,h1]
 show (if bmOk m x s1 = true then _ else _) = _
 rw [if_pos h0,h2]; exact h3
theorem e_meth {k f:Nat} {es:List E} {x:V} {vs:List V} {s1 s2:MS} (h1:ev P C a l s = .ok x s1) (h0:methOf P x k s1 = some f) (h2:evL P C es l s1 = .ok vs s2) (h3:C f (x :: vs) s2 = .ok v s'):ev P C (.meth a k es) l s = .ok v s':=by
 rw [ev_meth,h1]
 show (match methOf P x k s1 with | some f=>_ | none=>_) = _
 rw [h0]
 show Res.bind (evL P C es l s1) _ = _
 rw [h2]; exact h3
theorem e_methQ {k f:Nat} {es:List E} {x:V} {vs:List V} {s1 s2:MS} {R:V → MS → Prop} (h1:ev P C a l s = .ok x s1) (h0:methOf P x k s1 = some f) (h2:evL P C es l s1 = .ok vs s2) (h3:OkR (C f (x :: vs) s2) R):OkR (ev P C (.meth a k es) l s) R:=by
 rw [ev_meth,h1]
 show OkR (match methOf P x k s1 with | some f=>_ | none=>_) _
 rw [h0]
 show OkR (Res.bind (evL P C es l s1) _) _
 rw [h2]; exact h3
theorem e_dictC {k:Nat} {r:Lbl} {d:List (V × V)} {s1:MS} (h1:ev P C a l s = .ok (.ref r) s1) (h2:s1.heap r = some (.dict d)) (h3:d.length ≤ 1000):ev P C (.dictC k a) l s = .ok (.ref (k,s1.cnt k)) (s1.new k (.dict d)):=by
 rw [ev_dictC,h1]
 show (match s1.heap r with | some (.dict d)=>if d.length ≤ 1000 then Res.ok (V.ref (k,s1.cnt k)) (s1.new k (.dict d)) else .stuck | _=>.stuck) = _
 rw [h2]; exact if_pos h3
theorem e_listM {k:Nat} {x:V} {b:Bool} {vs:List V} {s1:MS} (h1:ev P C a l s = .ok x s1) (h2:seqOf s1 x = some (b,vs)):ev P C (.listM k a) l s = .ok (.ref (k,s1.cnt k)) (s1.new k (.list vs)):=by
 rw [ev_listM,h1]
 show (match seqOf s1 x with | some (_,vs)=>Res.ok (V.ref (k,s1.cnt k)) (s1.new k (.list vs)) | none=>.stuck) = _
 rw [h2]
theorem e_comp {slot:Nat} {range:Bool} {cond:Option E} {src:V} {xs vs:List V} {s1 s2:MS} (h1:ev P C a l s = .ok src s1) (h2:itemsOf s1 range src = some xs) (h3:compLoop s1 range src slot (evC P C cond) (ev P C e) l [] xs s1 = .ok vs s2) :
  ev P C (.comp none slot range a cond e) l s = .ok (.lst vs) s2:=by
 rw [ev_comp,h1]
 show (match itemsOf s1 range src with | some xs=>_ | none=>_) = _
 rw [h2]
 show (Res.bind _ _) = _
 rw [h3]; rfl
theorem e_cons {es:List E} {vs:List V} {s1:MS} (h1:ev P C e l s = .ok v s1) (h2:evL P C es l s1 = .ok vs s'):evL P C (e :: es) l s = .ok (v :: vs) s':=by
 rw [evL_cons,h1]
 show Res.bind (evL P C es l s1) _ = _
 rw [h2]; rfl
end
theorem bm_list {s:MS} {r:Lbl} {l:List V} (h:s.heap r = some (.list l)):bmOk .append (.ref r) s = true:=by
 show (listAt (.ref r) s).isSome = true
 delta listAt; dsimp only; rw [h]; rfl
theorem bm_dict {s:MS} {r:Lbl} {l:List (V × V)} (h:s.heap r = some (.dict l)):bmOk .get (.ref r) s = true:=by
 show (dictAt (.ref r) s).isSome = true
 delta dictAt; dsimp only; rw [h]; rfl
theorem bind_eq {α β:Type} {r:Res α} {a:α} {s:MS} {f:α → MS → Res β} {q:Res β} (h:r = .ok a s) (k:f a s = q):r.bind f = q:=by rw [h]; exact k
theorem sa_ok {s:MS} {c:Lbl} {k:Nat} {as:List (Nat × V)} (i:Nat) (v:V) (h:s.heap c = some (.inst k as)) (hn:decide (as.length < 1000) = true):setAttr (.ref c) i v s = .ok () (s.put c (.inst k (aput i v as))):=by
 show (match s.heap c with | some (.inst c' as)=>if as.length < 1000 then Res.ok () (s.put c (.inst c' (aput i v as))) else .stuck | _=>.stuck) = _
 rw [h]
 exact if_pos (of_decide_eq_true hn)
theorem ga_ok {s:MS} {c:Lbl} {k i:Nat} {as:List (Nat × V)} {v:V} (h:s.heap c = some (.inst k as)) (hv:afind i as = some v):getAttr (.ref c) i s = .ok v s:=by
 show (match s.heap c with | some (.inst _ as)=>okV s (afind i as) | _=>.stuck) = _
 rw [h]
 show okV s (afind i as) = _
 rw [hv]; rfl
theorem put_self (s:MS) (c:Lbl) (o:MObj):(s.put c o).heap c = some o:=if_pos rfl
theorem put_ne {s:MS} {c l:Lbl} {o:MObj} (h:l ≠ c):(s.put c o).heap l = s.heap l:=if_neg h
theorem new_self (s:MS) (k:Nat) (o:MObj):(s.new k o).heap (k,s.cnt k) = some o:=if_pos rfl
theorem new_ne {s:MS} {k:Nat} {l:Lbl} {o:MObj} (h:l ≠ (k,s.cnt k)):(s.new k o).heap l = s.heap l:=if_neg h
theorem kind_ne {a b i j:Nat} (h:a ≠ b):((a,i):Lbl) ≠ (b,j):=fun e=>h (congrArg Prod.fst e)
theorem meth_of {P:Prog} {s:MS} {r:Lbl} {c m:Nat} {as:List (Nat × V)} (h:s.heap r = some (.inst c as)):methOf P (.ref r) m s = P.meths c m:=by
 show (match s.heap r with | some (.inst c _)=>P.meths c m | _=>none) = _
 rw [h]
theorem seq_ref {s:MS} {r:Lbl} {l:List V} (h:s.heap r = some (.list l)):seqOf s (.ref r) = some (true,l):=by
 show (match s.heap r with | some (.list l)=>some (true,l) | _=>none) = _
 rw [h]
end Mine
end
section
namespace Mine
open PySem PySem.W PyProof.Rows
noncomputable def attrs:List PySem.Str:=["number","begun","open_call","closed","known","written","laid","fresh","all_keys","houses","callers","post","rows"]
noncomputable def attrName (i:Nat):PySem.Str:=match attrs[i]? with
  | some x=>x
  | none=>toStr [0,i]
noncomputable def attrsOk:Bool:=attrs.all (fun x=>!(x.cps[0]? == some 0)) && (List.range 13).all fun i=>(List.range 13).all fun j=>decide (attrs[i]? = attrs[j]? → i = j)
theorem attrs_ok:attrsOk = true:=by decide +kernel
theorem attr_inj (i j:Nat) (h:attrName i = attrName j):i = j:=by
  have hok:=attrs_ok
  simp only [attrsOk,Bool.and_eq_true,List.all_eq_true,Bool.not_eq_true',beq_eq_false_iff_ne,decide_eq_true_eq] at hok
  unfold attrName at h
  cases hi:attrs[i]? with
  | some x =>
    cases hj:attrs[j]? with
    | some y =>
      rw [hi,hj] at h
      simp only at h
      subst h
      have h1:i < 13:=(List.getElem?_eq_some_iff.1 hi).1
      have h2:j < 13:=(List.getElem?_eq_some_iff.1 hj).1
      exact hok.2 i (List.mem_range.2 h1) j (List.mem_range.2 h2) (hi.trans hj.symm)
    | none =>
      rw [hi,hj] at h
      simp only at h
      have:=hok.1 x (List.mem_of_getElem? hi)
      rw [h] at this
      exact (this rfl).elim
  | none =>
    cases hj:attrs[j]? with
    | some y =>
      rw [hi,hj] at h
      simp only at h
      have:=hok.1 y (List.mem_of_getElem? hj)
      rw [← h] at this
      exact (this rfl).elim
    | none =>
      rw [hi,hj] at h
      simp only [toStr] at h
      injection h with h
      injection h with h
      injection h with _ h
      injection h
noncomputable def notAttr (x:PySem.Str):Bool:=!(x.cps[0]? == some 0) && attrs.all fun y=>!(y == x)
theorem notAttr_ok {x:PySem.Str} (h:notAttr x = true) (i:Nat):x ≠ attrName i:=by
  simp only [notAttr,Bool.and_eq_true,List.all_eq_true,Bool.not_eq_true',beq_eq_false_iff_ne] at h
  unfold attrName
  cases hi:attrs[i]? with
  | some y =>
    intro e
    exact h.2 y (List.mem_of_getElem? hi) e.symm
  | none =>
    rintro rfl
    exact h.1 rfl
noncomputable def globIn (K:Frag) (x:PySem.Str):Option Value:=match K.lookup mainGlobals with
  | some ⟨_,_,.dict es _,_⟩=>nsFind es x
  | _=>none
noncomputable def hasGlob (K:Frag):Bool:=match K.lookup mainGlobals with
  | some ⟨_,_,.dict _ _,_⟩=>true
  | _=>false
theorem globIn_ok {K:Frag} {h:Heap} {mg:PySem.Str → Option Value} (X:K.In h) (hg:h.Ns mainGlobals mg) (hK:hasGlob K = true) (x:PySem.Str):mg x = globIn K x:=by
  unfold hasGlob at hK
  split at hK
  · rename_i c dd es n sl ho
    obtain ⟨o,es',ep,h1,h2,h3,h4⟩:=hg
    have h5:=X _ _ ho
    rw [h1] at h5
    cases h5
    cases h2
    rw [← h4]
    simp only [globIn,ho]
  · exact no_ft hK
set_option genCtorIdx false in
structure Tab where
  fal:List (Nat × Addr)
  cal:List (Nat × Addr)
  fnl:List (Nat × Fn)
  mel:List ((Nat × Nat) × Nat)
  inl:List (Nat × (Nat × Nat))
  xbl:List (Nat × List Nat)
noncomputable def noneNames:List PySem.Str:=["len","max","int","sorted","tuple","list","all","isinstance","range","dict","bool","str","ValueError"]
noncomputable def isInt (v:Option Value) (i:Int):Bool:=match v with
  | some (.int j _)=>decide (i = j)
  | _=>false
noncomputable def isTxt (v:Option Value) (x:PySem.Str):Bool:=match v with
  | some (.str y _)=>x == y
  | _=>false
theorem isInt_ok {v:Option Value} {i:Int} (h:isInt v i = true):∃ k,v = some (.int i k):=by
  unfold isInt at h
  split at h
  · simp only [decide_eq_true_eq] at h; subst h; exact ⟨_,rfl⟩
  · exact no_ft h
theorem isTxt_ok {v:Option Value} {x:PySem.Str} (h:isTxt v x = true):∃ k,v = some (.str x k):=by
  unfold isTxt at h
  split at h
  · simp only [beq_iff_eq] at h; subst h; exact ⟨_,rfl⟩
  · exact no_ft h
noncomputable def ckGlob (K:Frag) (N:Names):Bool :=
  hasGlob K && N.gi.all (fun p=>isInt (globIn K p.1) p.2) && N.gs.all (fun p=>isTxt (globIn K p.1) (toStr p.2)) && noneNames.all fun x=>(globIn K x).isNone
noncomputable def ckFal (K:Frag) (N:Names) (T:Tab):Bool:=T.fal.all fun p=>keepIn K (.ref p.2) && (N.fn p.1 == Str.empty || decide (globIn K (N.fn p.1) = some (.ref p.2)))
noncomputable def ckCls (K:Frag) (Ca:Addr):Bool :=
  decide (findIn K (.ref Ca) "__getattribute__" = some (some (.builtin "object.__getattribute__"))) &&
  decide (findIn K (.ref Ca) "__getattr__" = some none) && decide (findIn K (.ref Ca) "__setattr__" = some (some (.builtin "object.__setattr__"))) &&
  attrs.all (fun x=>decide (findIn K (.ref Ca) x = some none)) && (clsIn K Ca).any (·.hasDict) && plainOver K Ca
noncomputable def ckCal (K:Frag) (T:Tab):Bool:=T.cal.all fun p=>ckCls K p.2
noncomputable def ckMel (K:Frag) (N:Names) (T:Tab):Bool:=T.mel.all fun p=>match T.cal.lookup p.1.1 with
  | some Ca=>(match T.fal.lookup p.2 with
    | some a=>decide (findIn K (.ref Ca) (N.meth p.1.2) = some (some (.ref a))) && decide (typeIn K (.ref a) = some (.type "function")) && keepIn K (.ref a) && notAttr (N.meth p.1.2)
    | none=>false)
  | none=>true
noncomputable def ckInl (K:Frag) (N:Names) (T:Tab):Bool:=T.inl.all fun p=>match T.cal.lookup p.1 with
  | some Ca=>(match T.fal.lookup p.2.2 with
    | some fi=>keepIn K (.ref Ca) && decide (globIn K (N.cls p.1) = some (.ref Ca)) && makesIn K Ca && decide (findIn K (.ref Ca) "__init__" = some (some (.ref fi))) && decide (typeIn K (.ref fi) = some (.type "function"))
    | none=>false)
  | none=>false
noncomputable def ckXk (K:Frag) (T:Tab):Bool:=T.xbl.all fun p=>p.2.all fun k=>decide (kitOne K (.ref p.1) (xval k) = some true) && (decide (k = 0) || decide (exmOne K (.ref p.1) (.ref k) = some true))
noncomputable def ckXi (K:Frag) (N:Names) (T:Tab):Bool:=T.xbl.all fun p=>xcls K p.1 && p.2.contains 0 && N.xs.all fun x=>p.2.contains x.2 || decide (kitOne K (.ref p.1) (xval x.2) = some false)
noncomputable def ckXm (N:Names) (T:Tab):Bool:=T.mel.all fun p=>!N.xm p.1.2 || N.xf p.2
noncomputable def ckFnl (K:Frag) (N:Names) (T:Tab):Bool:=T.fnl.all fun p=>match T.fal.lookup p.1 with
  | some a=>ckFn K N p.2 a
  | none=>false
noncomputable def ckQl (K:Frag) (T:Tab) {G:Gd} {N:Names} {C:Calls} {d:Dp} (n:Nat) (H:Hyp G N C d):Bool:=T.fnl.all fun p=>!N.qf p.1 || (T.fal.lookup p.1).any fun a=>ckBody K n H p.2 a
noncomputable def ckBl (K:Frag) (T:Tab) {G:Gd} {N:Names} {C:Calls} {d:Dp} (n:Nat) (H:Hyp G N C d):Bool:=T.fnl.all fun p=>(T.fal.lookup p.1).any fun a=>ckBody K n H p.2 a
theorem mem_of_lookup {α β:Type} [BEq α] [LawfulBEq α]:∀ {l:List (α × β)} {k:α} {v:β},l.lookup k = some v → (k,v) ∈ l
  | [],_,_,h=>by simp at h
  | (a,b) :: l,k,v,h=>by
    rw [List.lookup_cons] at h
    split at h
    · rename_i e
      cases h
      rw [beq_iff_eq.1 e]; exact List.mem_cons_self ..
    · exact List.mem_cons_of_mem _ (mem_of_lookup h)
noncomputable def Tab.prog (T:Tab):Prog:=⟨fun f=>T.fnl.lookup f,fun c m=>T.mel.lookup (c,m),fun c=>T.inl.lookup c,fun c=>(T.xbl.lookup c).getD []⟩
noncomputable def Tab.gd (T:Tab) (prog:Program) (w:World) (K:Frag) (mg mb:PySem.Str → Option Value) (h:Heap):Gd :=
  ⟨prog,w,K,mg,mb,h,T.prog,fun f=>T.fal.lookup f,fun c=>T.cal.lookup c,attrName⟩
theorem stat_of {T:Tab} {N:Names} {prog:Program} {w:World} {K:Frag} {mg mb:PySem.Str → Option Value} {h:Heap} (hN:N.attr = attrName)
    (X:K.In h) (g:h.Ns mainGlobals mg) (b:h.Ns builtinsNs mb) (bi:∀ x:PySem.Str,x ≠ "__name__" → mb x = bootBuiltins x) (lim:h.NoLimit)
    (h1:ckGlob K N = true) (h2:ckFal K N T = true) (h3:ckCal K T = true) (h4:ckMel K N T = true) (h5:ckInl K N T = true) (hxw:∀ y c,N.xs.contains (y,c) = true → c ≠ 0 ∧ OwnCls y c vbm "ValueError.__new__" mg h) (h6:ckXk K T = true) (h7:ckXm N T = true) (h8:ckXi K N T = true):Stat (T.gd prog w K mg mb h) N:=by
  simp only [ckGlob,Bool.and_eq_true,List.all_eq_true] at h1
  obtain ⟨⟨⟨g1,g2⟩,g3⟩,g4⟩:=h1
  have hm:=fun x=>globIn_ok X g g1 x
  simp only [ckFal,ckCal,ckMel,ckInl,List.all_eq_true,Bool.and_eq_true,Bool.or_eq_true,beq_iff_eq,decide_eq_true_eq] at h2 h3 h4 h5
  constructor
  · refine ⟨X,g,b,bi,lim,fun x i hc=>?_,fun x i hc=>?_,attr_inj,hN,fun x hx=>?_⟩
    · obtain ⟨k,e⟩:=isInt_ok (g2 (x,i) (by simpa using hc))
      exact ⟨k,(hm x).trans e⟩
    · obtain ⟨k,e⟩:=isTxt_ok (g3 (x,i) (by simpa using hc))
      exact ⟨k,(hm x).trans e⟩
    · exact (hm x).trans (Option.isNone_iff_eq_none.1 (g4 x hx))
  · intro c Ca hc
    have e:=h3 _ (mem_of_lookup hc)
    simp only [ckCls,Bool.and_eq_true,decide_eq_true_eq,List.all_eq_true] at e
    obtain ⟨⟨⟨⟨⟨e1,e2⟩,e3⟩,e4⟩,e5⟩,e6⟩:=e
    refine ⟨e1,e2,e3,fun i hi=>?_,?_,e6⟩
    · show findIn K (.ref Ca) (attrName i) = some none
      unfold attrName
      have hlt:i < attrs.length:=hi
      rw [List.getElem?_eq_getElem hlt]
      exact e4 _ (List.getElem_mem _)
    · show ∃ cd,clsIn K Ca = some cd ∧ cd.hasDict = true
      cases hc:clsIn K Ca with
      | none=>rw [hc] at e5; exact no_ft e5
      | some cd=>rw [hc] at e5; exact ⟨cd,rfl,e5⟩
  · intro f a hf
    have e:=h2 _ (mem_of_lookup hf)
    exact ⟨e.1,e.2.imp id fun e=>(hm _).trans e⟩
  · intro c k f Ca hc hca
    have e:=h4 _ (mem_of_lookup hc)
    have hca:T.cal.lookup c = some Ca:=hca
    simp only [hca] at e
    split at e
    · rename_i a ha
      simp only [Bool.and_eq_true,decide_eq_true_eq] at e
      obtain ⟨⟨⟨e1,e2⟩,e3⟩,e4⟩:=e
      exact ⟨a,ha,e1,e2,e3,notAttr_ok e4⟩
    · exact no_ft e
  · intro c k f hc
    have e:=h5 _ (mem_of_lookup hc)
    simp only at e
    split at e
    · rename_i Ca hca
      split at e
      · rename_i fi hfi
        simp only [Bool.and_eq_true,decide_eq_true_eq] at e
        obtain ⟨⟨⟨⟨e1,e2⟩,e3⟩,e4⟩,e5⟩:=e
        exact ⟨Ca,fi,hca,hfi,e1,(hm _).trans e2,e3,e4,e5⟩
      · exact no_ft e
    · exact no_ft e
  · exact hxw
  · intro c k h1 h2
    have h1:((T.xbl.lookup c).getD []).contains c = true:=h1
    have h2:((T.xbl.lookup c).getD []).contains k = true:=h2
    show kitOne K (.ref c) (xval k) = some true ∧ (k ≠ 0 → exmOne K (.ref c) (.ref k) = some true)
    cases hl:T.xbl.lookup c with
    | none=>rw [hl] at h1; exact no_ft h1
    | some l =>
      rw [hl] at h2
      have e:=List.all_eq_true.1 (List.all_eq_true.1 h6 _ (mem_of_lookup hl)) k (List.contains_iff_mem.1 h2)
      obtain ⟨e1,e2⟩:=Bool.and_eq_true_iff.1 e
      exact ⟨of_decide_eq_true e1,fun hk=>(Bool.or_eq_true_iff.1 e2).elim (fun z=>absurd (of_decide_eq_true z) hk) of_decide_eq_true⟩
  · intro k c f hk hc
    have e:=List.all_eq_true.1 h7 _ (mem_of_lookup hc)
    exact (Bool.or_eq_true_iff.1 e).elim (fun z=>by rw [show N.xm k = true from hk] at z; exact no_ft z) id
  · intro c k h1 h2
    have h1:((T.xbl.lookup c).getD []).contains c = true:=h1
    show xcls K c = true ∧ kitOne K (.ref c) (xval k) = some (((T.xbl.lookup c).getD []).contains k)
    cases hl:T.xbl.lookup c with
    | none=>rw [hl] at h1; exact no_ft h1
    | some l =>
      rw [hl] at h1
      obtain ⟨e1,e2⟩:=Bool.and_eq_true_iff.1 (List.all_eq_true.1 h8 _ (mem_of_lookup hl))
      obtain ⟨e0,e1⟩:=Bool.and_eq_true_iff.1 e1
      refine ⟨e0,?_⟩
      show kitOne K (.ref c) (xval k) = some (l.contains k)
      cases hk:l.contains k with
      | true =>
        have e:=List.all_eq_true.1 (List.all_eq_true.1 h6 _ (mem_of_lookup hl)) k (List.contains_iff_mem.1 hk)
        exact of_decide_eq_true (Bool.and_eq_true_iff.1 e).1
      | false =>
        rcases h2 with rfl | ⟨y,h2⟩
        · rw [hk] at e1; exact no_ft e1
        · have e:=List.all_eq_true.1 e2 _ (List.contains_iff_mem.1 h2)
          exact of_decide_eq_true ((Bool.or_eq_true_iff.1 e).resolve_left fun z=>by rw [hk] at z; exact no_ft z)
theorem bits_all:∀ {ns:List Int} {n:Nat},PyData.weightAll (ns.map .int) ≤ n → ∀ i ∈ ns,intBits i ≤ n
  | [],_,_,i,hi=>by cases hi
  | j :: ns,n,h,i,hi=>by
    simp only [List.map_cons,PyData.weightAll,PyData.weight] at h
    rcases List.mem_cons.1 hi with rfl | hi
    · unfold intBits
      by_cases e:i = 0
      · simp [e]
      · simp [e] at h ⊢; lia
    · exact bits_all (by lia) i hi
theorem bits_lay {ns:List Int} (h:(PyData.list (ns.map .int)).layable0 = true):∀ i ∈ ns,intBits i ≤ 1048576:=by
  simp only [PyData.layable0,Bool.and_eq_true,PyData.weight] at h
  exact bits_all (of_decide_eq_true h.2)
theorem law_close {T:Tab} {N:Names} {prog:Program} {w:World} {K:Frag} {mg mb:PySem.Str → Option Value} {s:Shared} (S:Stat (T.gd prog w K mg mb s.heap) N) (hf:ckFnl K N T = true) (hb:∀ (G:Gd) (C:Calls) (n:Nat) (H:Hyp G N C ⟨n,true⟩),ckBl K T n H = true) (hbq:∀ (G:Gd) (C:Calls) (n:Nat) (H:Hyp G N C ⟨n,false⟩),ckQl K T n H = true)
    {n law:Nat} {fa la:Addr} {ns:List Int} {vals:List Value} (hA:AC ⟨n,true⟩ callerA) (hfa:T.fal.lookup law = some fa) (hz:s.heap.get? la = some { cls:=.type "list",data:=.seq vals.toArray }) (hlen:ns.length ≤ 63) (hI:IntsAre vals ns)
    {st':MS} (hrun:run T.prog n law [.lst (ns.map .int)] st0 = .ok (.bool true) st') {B:Result → Shared → Prop}
    (k:∀ s':Shared,(∀ b o,s.heap.get? b = some o → s'.heap.get? b = some o) → s'.os = s.os → s'.gens = s.gens → B (.ok (.ret (.bool true))) s') :
    codeAny (model prog w) callerA (.call (.ref fa) ⟨[.ref la],[]⟩) B s:=by
  let G:=T.gd prog w K mg mb s.heap
  have hok:∀ f fn,G.P.fns f = some fn → ∃ a,G.fa f = some a ∧ ckFn G.K N fn a = true:=by
    intro f fn h
    have e:=List.all_eq_true.1 hf _ (mem_of_lookup h)
    simp only at e
    split at e
    · rename_i a ha
      exact ⟨a,ha,e⟩
    · exact no_ft e
  have hfn:∀ f fn,G.P.fns f = some fn → ∃ a,G.fa f = some a ∧ FnRec G true (CallsA G N.xf N.qf) fn a:=by
    intro f fn h
    obtain ⟨a,ha,e⟩:=hok f fn h
    refine ⟨a,ha,fnRec_of (fun _ _=>S.hyp) e fun C n H=>?_⟩
    have g:=List.all_eq_true.1 (hb G C n H) _ (mem_of_lookup h)
    rw [show T.fal.lookup f = some a from ha] at g
    exact g
  have hfq:∀ f fn,N.qf f = true → G.P.fns f = some fn → ∃ a,G.fa f = some a ∧ FnRec G false (fun C n=>CallsQ G C n N.qf) fn a:=by
    intro f fn hx h
    obtain ⟨a,ha,e⟩:=hok f fn h
    refine ⟨a,ha,fnRec_of (fun _ _=>S.hypQ) e fun C n H=>?_⟩
    have g:=(Bool.or_eq_true_iff.1 (List.all_eq_true.1 (hbq G C n H) _ (mem_of_lookup h))).resolve_left fun z=>by
      rw [show N.qf f = true from hx] at z; exact no_ft z
    rw [show T.fal.lookup f = some a from ha] at g
    exact g
  let t0:Tie:=⟨fun _=>none,fun _=>none,fun _=>False,0,[]⟩
  have hno:∀ a,¬ t0.Avoid a:=by
    rintro a (⟨l,e | e⟩ | e)
    · exact no_none e
    · exact no_none e
    · exact e
  have R:Rel G t0 st0 s :=
    { base:=fun b o e=>e,apart:=fun a q=>(hno a q).elim,live:=fun a q=>(hno a q).elim,pv:=fun a q=>q.elim,injρ:=(fun l l' a e=>by exact no_none e),injδ:=(fun l l' a e=>by exact no_none e),two:=(fun l l' a e=>by exact no_none e),
      objs:=(fun l o e=>by exact no_none e),cnt:=(fun k i _=>⟨rfl,rfl,rfl⟩),sys:=(fun l e=>by exact no_none e),wr:=rfl }
  have hV:∀ {vs:List Value} {ms:List Int},IntsAre vs ms → VRels t0 s.heap (ms.map .int) vs:=by
    intro vs ms h
    induction h with
    | nil=>rfl
    | cons n t _ ih=>exact ⟨_,_,rfl,⟨t,rfl⟩,ih⟩
  have rv:VRel t0 s.heap (.lst (ns.map .int)) (.ref la):=⟨la,vals.toArray,rfl,⟨_,hz⟩,hno _,by rw [List.length_map]; unfold sizeMax; lia,hV hI⟩
  obtain ⟨a,ha,go⟩:=(calls_both S.O hfn hfq n).ok law [.lst (ns.map .int)] st0 (.bool true) st' hrun callerA hA
  have:a = fa:=by
    have ha:T.fal.lookup law = some a:=ha
    rw [hfa] at ha; cases ha; rfl
  subst this
  refine go t0 s [.ref la] ⟨rfl,fun e he=>by cases he⟩ R ⟨_,_,rfl,rv,rfl⟩ B fun v t' s' S' R' r=>?_
  have r:v = .bool true:=r
  subst r
  exact k s' R'.base S'.os S'.gens
end Mine
end
section
namespace Mine
noncomputable def f_cell:Fn:=⟨2,["_law_script","_law_k"],[.ite (.cmp (.loc 1) .lt (.prim .len [.loc 0])) [.ret (some (.sub (.loc 0) (.loc 1)))] [],.ret (some (.int 0))]⟩
noncomputable def f_alike (self:Nat):Fn:=⟨2,["_law_found","_law_due",""],[.ite (.isinst (.loc 1) [.list,.tuple]) [.ite (.or [.cmp (.isinst (.loc 1) [.list]) .ne (.isinst (.loc 0) [.list]),.cmp (.isinst (.loc 1) [.tuple]) .ne (.isinst (.loc 0) [.tuple])]) [.ret (some (.bool false))] [],.ite (.cmp (.prim .len [.loc 0]) .ne (.prim .len [.loc 1])) [.ret (some (.bool false))] [],.ret (some (.prim .all1 [.comp none 2 true (.prim .len [.loc 1]) none (.call self [.sub (.loc 0) (.loc 2),.sub (.loc 1) (.loc 2)])]))] [],.ite (.isinst (.loc 1) [.str]) [.ret (some (.and [.isinst (.loc 0) [.str],.cmp (.loc 0) .eq (.loc 1)]))] [],.ret (some (.and [.isinst (.loc 0) [.int],.not (.isinst (.loc 0) [.bool]),.cmp (.loc 0) .eq (.loc 1)]))]⟩
noncomputable def f_wish:Fn:=⟨1,["_law_cell","_law_number"],[.assign 1 (.bin .sub (.bin .mod (.bin .fdiv (.loc 0) (.int 6)) (.int 7)) (.int 3)),.ite (.cmp (.bin .mod (.bin .fdiv (.loc 0) (.int 3)) (.int 2)) .eq (.int 1)) [.assign 1 (.bin .sub (.bin .mod (.bin .fdiv (.loc 0) (.int 6)) (.bin .add (.bin .mul (.int 2) (.bin .pow (.int 10) (.int 30))) (.int 1))) (.bin .pow (.int 10) (.int 30)))] [],.ret (some (.sub (.lst [.tup [.str [103,101,116]],.tup [.str [115,101,116],.loc 1],.tup [.str [97,100,100],.loc 1]]) (.bin .mod (.loc 0) (.int 3))))]⟩
noncomputable def f_keys:Fn:=⟨1,["_law_cell","_law_letters","_law_many","_law_size","_law_at","_law_turn","_law_rest","","",""],[.assign 1 (.str [97,98,99,100,101,102,103,104,105,106,107,108,109,110,111,112,113,114,115,116,117,118,119,120,121,122]),.assign 2 (.bin .add (.int 1) (.bin .mod (.loc 0) (.int 6))),.assign 3 (.bin .mod (.bin .fdiv (.loc 0) (.int 6)) (.int 8)),.assign 4 (.bin .mod (.bin .fdiv (.loc 0) (.int 48)) (.bin .add (.loc 3) (.int 1))),.assign 5 (.bin .fdiv (.loc 0) (.int 432)),.assign 6 (.bm .join (.str []) [.comp none 7 true (.loc 3) none (.sub (.loc 1) (.bin .mod (.bin .add (.bin .fdiv (.loc 5) (.int 26)) (.bin .mul (.int 5) (.loc 7))) (.int 26)))]),.ite (.cmp (.bin .mod (.loc 5) (.int 3)) .eq (.int 1)) [.ret (some (.comp none 8 true (.loc 2) none (.slice (.bin .add (.loc 6) (.str [113,119,101,114,116,121,117,105])) none (some (.bin .add (.loc 8) (.int 1))))))] [],.ret (some (.comp none 9 true (.loc 2) none (.bin .add (.bin .add (.slice (.loc 6) none (some (.loc 4))) (.sub (.loc 1) (.bin .mod (.bin .add (.loc 5) (.loc 9)) (.int 26)))) (.slice (.loc 6) (some (.loc 4)) none))))]⟩
inductive W where | get | set (i:Int) | add (i:Int)
noncomputable def wv:W → V
 | .get=>.tup [.str [103,101,116]]
 | .set i=>.tup [.str [115,101,116],.int i]
 | .add i=>.tup [.str [97,100,100],.int i]
noncomputable def dn (a:Int):W → Int × Int
 | .get=>(a,a)
 | .set i=>(i,a)
 | .add i=>(a + i,a + i)
variable {P:Prog}
theorem i_seq {s:MS} {a:V} {k:Bool} {l:List V} (h:seqOf s a = some (k,l)) (i:Nat) (hi:i < l.length):getItem a (.int i) s = .ok l[i] s:=by
 have h0:(0:Int) ≤ i:=by lia
 have h1:(i:Int) < l.length:=by lia
 cases a <;> simp [seqOf] at h <;> simp_all [getItem,seqOf,idx,okV]
theorem run_cell {f:Nat} (hf:P.fns f = some f_cell) (n:Nat) (l:List Int) (k:Nat) (s:MS):run P (n + 1) f [.lst (l.map .int),.int k] s = .ok (.int (l.getD k 0)) s:=by
 refine okr_eq (okr_run (fn:=f_cell) hf rfl ?_)
 have hc:ev P (run P n) (.cmp (.loc 1) .lt (.prim .len [.loc 0])) [some (.lst (l.map .int)),some (.int k)] s = .ok (.bool (decide ((k:Int) < ((l.map V.int).length:Nat)))) s:=rfl
 rw [List.length_map] at hc
 by_cases h:k < l.length
 ·refine st_if (hc.trans (congrArg (fun b=>Res.ok (V.bool b) s) (decide_eq_true (by lia)))) (st_ret (e_sub (s1:=s) (s2:=s) rfl rfl (i_seq (a:=.lst (l.map .int)) (k:=true) rfl k (by simpa using h))) ⟨?_,rfl⟩)
  simp [flV,h]
 ·refine st_if (hc.trans (congrArg (fun b=>Res.ok (V.bool b) s) (decide_eq_false (by lia)))) (st_next (st_ret rfl ⟨?_,rfl⟩))
  simp [flV,h]
theorem run_cell0 {f:Nat} (hf:P.fns f = some f_cell) (n:Nat) (l:List Int) (s:MS):run P (n + 1) f [.lst (l.map .int),.int 0] s = .ok (.int (l.getD 0 0)) s:=run_cell hf n l 0 s
theorem run_cell1 {f:Nat} (hf:P.fns f = some f_cell) (n:Nat) (l:List Int) (s:MS):run P (n + 1) f [.lst (l.map .int),.int 1] s = .ok (.int (l.getD 1 0)) s:=run_cell hf n l 1 s
noncomputable def wnum (c:Int) (b:Bool):Int:=match b with
 | true=>(c.fdiv 6).fmod 2000000000000000000000000000001 - 1000000000000000000000000000000
 | false=>(c.fdiv 6).fmod 7 - 3
noncomputable def wpick (k i:Int):W:=if k = 0 then .get else if k = 1 then .set i else .add i
noncomputable def wishOf (c:Int):W:=wpick (c.fmod 3) (wnum c (decide ((c.fdiv 3).fmod 2 = 1)))
theorem pick_ok (k i:Int) (s:MS) (h:k = 0 ∨ k = 1 ∨ k = 2):getItem (.lst [.tup [.str [103,101,116]],.tup [.str [115,101,116],.int i],.tup [.str [97,100,100],.int i]]) (.int k) s = .ok (wv (wpick k i)) s:=by
 rcases h with rfl | rfl | rfl <;> rfl
theorem run_wish {f:Nat} (hf:P.fns f = some f_wish) (n:Nat) (c:Int) (s:MS):run P (n + 1) f [.int c] s = .ok (wv (wishOf c)) s:=by
 refine okr_eq (okr_run (fn:=f_wish) hf rfl ?_)
 have h3:c.fmod 3 = 0 ∨ c.fmod 3 = 1 ∨ c.fmod 3 = 2:=by
  rw [Int.fmod_eq_emod_of_nonneg c (by decide)]; lia
 refine st_assign (v:=.int (wnum c false)) rfl rfl ?_
 cases hb:decide ((c.fdiv 3).fmod 2 = 1)
 ·refine st_if (t:=false) (congrArg (fun b=>Res.ok (V.bool b) s) hb) (st_next (st_ret (pick_ok (c.fmod 3) (wnum c false) s h3) ⟨?_,rfl⟩))
  show wv (wpick _ (wnum c false)) = wv (wpick _ (wnum c (decide _))); rw [hb]
 ·refine st_if (t:=true) (congrArg (fun b=>Res.ok (V.bool b) s) hb) (st_assign (v:=.int (wnum c true)) rfl rfl (st_next (st_ret (pick_ok (c.fmod 3) (wnum c true) s h3) ⟨?_,rfl⟩)))
  show wv (wpick _ (wnum c true)) = wv (wpick _ (wnum c (decide _))); rw [hb]
theorem fmod_pos (x y:Int) (h:0 ≤ y):x.fmod y = x % y:=Int.fmod_eq_emod_of_nonneg x h
noncomputable def abc:List Nat:=[97,98,99,100,101,102,103,104,105,106,107,108,109,110,111,112,113,114,115,116,117,118,119,120,121,122]
noncomputable def letter (x:Int):Nat:=abc[(x.fmod 26).toNat]?.getD 97
theorem fmod_range (x m:Int) (h:0 < m):0 ≤ x.fmod m ∧ x.fmod m < m:=by
 rw [Int.fmod_eq_emod_of_nonneg x (Int.le_of_lt h)]
 exact ⟨Int.emod_nonneg x (Int.ne_of_gt h),Int.emod_lt_of_pos x h⟩
theorem abc_at (x:Int) (s:MS):getItem (.str abc) (.int (x.fmod 26)) s = .ok (.str [letter x]) s:=by
 obtain ⟨h1,h2⟩:=fmod_range x 26 (by decide)
 have h3:(x.fmod 26).toNat < abc.length:=by show _ < 26; lia
 refine (i_str abc (x.fmod 26) s h1 (by show _ < (26:Int); exact h2) (by decide)).trans ?_
 rw [letter,List.getElem?_eq_getElem h3]; rfl
theorem abc_get:∀ i:Fin 26,abc[i.1]?.getD 97 = 97 + i.1:=by decide
theorem letter_eq (x:Int):letter x = 97 + (x.fmod 26).toNat:=by
 obtain ⟨h1,h2⟩:=fmod_range x 26 (by decide)
 exact abc_get ⟨(x.fmod 26).toNat,by lia⟩
theorem sl_str (x:List Nat) (j:Int) (s:MS) (h:0 ≤ j) (hx:x.length ≤ 16777216):getSlice (.str x) none (some (.int j)) s = .ok (.str (x.take j.toNat)) s:=by
 have hx:x.length ≤ sizeMax:=hx
 simp [getSlice,cutAt,h,hx]
theorem sl_str2 (x:List Nat) (j:Int) (s:MS) (h:0 ≤ j) (hx:x.length ≤ 16777216):getSlice (.str x) (some (.int j)) none s = .ok (.str (x.drop j.toNat)) s:=by
 have hx:x.length ≤ sizeMax:=hx
 simp [getSlice,cutAt,h,hx]
theorem join_ok {vs:List V} {x:List Nat} (s:MS) (h:catStrs vs = some x) (hx:x.length ≤ 16777216):bmeth .join (.str []) [.lst vs] s = .ok (.str x) s:=by
 have hx:x.length ≤ sizeMax:=hx
 simp only [bmeth,bm1,h,if_pos hx]
noncomputable def restOf (z:Nat) (t:Int):List Nat:=(List.range z).map fun (k:Nat)=>letter (t.fdiv 26 + 5 * k)
noncomputable def qwe:List Nat:=[113,119,101,114,116,121,117,105]
noncomputable def keysAt (m z a:Nat) (t:Int) (b:Bool):List (List Nat):=match b with
 | true=>(List.range m).map fun (k:Nat)=>(restOf z t ++ qwe).take (k + 1)
 | false=>(List.range m).map fun (k:Nat)=>(restOf z t).take a ++ [letter (t + k)] ++ (restOf z t).drop a
noncomputable def keysOf (c:Int):List (List Nat) :=
 keysAt (1 + c.fmod 6).toNat ((c.fdiv 6).fmod 8).toNat ((c.fdiv 48).fmod ((c.fdiv 6).fmod 8 + 1)).toNat (c.fdiv 432) (decide ((c.fdiv 432).fmod 3 = 1))
theorem rest_len (z:Nat) (t:Int):(restOf z t).length = z:=by rw [restOf,List.length_map,List.length_range]
theorem cat_one (f:Nat → Nat):∀ l:List Nat,catStrs (l.map fun k=>V.str [f k]) = some (l.map f)
 | []=>rfl
 | k :: l=>by rw [List.map_cons,catStrs,cat_one f l]; rfl
theorem cut_small (x:List Nat) (a:Nat) (h:x.length < 8):(x.take a).length + 1 ≤ 16777216:=by rw [List.length_take]; omega
theorem cut_both (x:List Nat) (a c:Nat) (h:x.length < 8):(x.take a ++ [c]).length + (x.drop a).length ≤ 16777216:=by rw [List.length_append,List.length_take,List.length_drop]; show min _ _ + 1 + _ ≤ _; omega
theorem run_keys1 {f:Nat} (hf:P.fns f = some f_keys) (n:Nat) (c:Int) (s:MS):run P (n + 1) f [.int c] s = .ok (.lst ((keysOf c).map .str)) s:=by
 obtain ⟨hm0,hm1⟩:=fmod_range c 6 (by decide)
 obtain ⟨hz0,hz1⟩:=fmod_range (c.fdiv 6) 8 (by decide)
 refine okr_eq (okr_run (fn:=f_keys) hf rfl ?_)
 refine st_assign (v:=.str abc) rfl rfl (st_assign (v:=.int (1 + c.fmod 6)) rfl rfl (st_assign (v:=.int ((c.fdiv 6).fmod 8)) rfl rfl ?_))
 unfold keysOf
 generalize c.fmod 6 = m at hm0 hm1
 generalize (c.fdiv 6).fmod 8 = z at hz0 hz1
 have hz2:¬ (z + 1 = 0):=by lia
 refine st_assign (v:=.int ((c.fdiv 48).fmod (z + 1))) (if_neg hz2) rfl (st_assign (v:=.int (c.fdiv 432)) rfl rfl ?_)
 obtain ⟨ha0,-⟩:=fmod_range (c.fdiv 48) (z + 1) (by lia)
 generalize (c.fdiv 48).fmod (z + 1) = a at ha0
 generalize c.fdiv 432 = t
 have hzn:(0:Nat) + ((List.range z.toNat).map fun (i:Nat)=>V.int i).length ≤ sizeMax:=by rw [List.length_map,List.length_range]; show _ ≤ 16777216; lia
 have hxl:(restOf z.toNat t).length < 8:=by rw [rest_len]; lia
 refine st_assign (v:=.str (restOf z.toNat t)) (s':=s) (e_bm (x:=.str []) (vs:=[.lst (((List.range z.toNat).map fun (i:Nat)=>V.int i).map fun v=>match v with | .int i=>V.str [letter (t.fdiv 26 + 5 * i)] | _=>.none)]) (s2:=s) rfl rfl (e_cons (e_comp rfl (items_range s z hz0 (by lia)) (comp_map s s true (.int z) 7 _ _ _ rfl _ [] ?_ hzn)) rfl) ?_) rfl ?_
 ·intro x hx
  obtain ⟨i,-,rfl⟩:=List.mem_map.1 hx
  exact e_sub (s1:=s) (s2:=s) rfl (e_bin (x:=.int (t.fdiv 26 + 5 * i)) (s1:=s) (s2:=s) (e_bin (x:=.int (t.fdiv 26)) (s1:=s) rfl (b_mulL 5 i s (by decide) (by decide)) rfl) rfl rfl) (abc_at (t.fdiv 26 + 5 * i) s)
 ·refine join_ok s ?_ (by lia)
  rw [List.map_map]
  exact cat_one (fun (k:Nat)=>letter (t.fdiv 26 + 5 * k)) (List.range z.toNat)
 have hmn:(0:Nat) + ((List.range (1 + m).toNat).map fun (i:Nat)=>V.int i).length ≤ sizeMax:=by rw [List.length_map,List.length_range]; show _ ≤ 16777216; lia
 have hit:itemsOf s true (.int (1 + m)) = some ((List.range (1 + m).toNat).map fun (i:Nat)=>.int i):=items_range s _ (by lia) (by lia)
 unfold keysAt
 generalize restOf z.toNat t = x at hxl
 cases hb:decide (t.fmod 3 = 1)
 ·refine st_if (t:=false) (congrArg (fun b=>Res.ok (V.bool b) s) hb) (st_next (st_ret (e_comp rfl hit (comp_map s s true (.int (1 + m)) 9 _ _ (fun v=>match v with | .int i=>V.str (x.take a.toNat ++ [letter (t + i)] ++ x.drop a.toNat) | _=>.none) rfl _ [] ?_ hmn)) ⟨?_,rfl⟩))
  ·intro y hy
   obtain ⟨i,-,rfl⟩:=List.mem_map.1 hy
   have h1:=cut_small x a.toNat hxl
   have h2:=cut_both x a.toNat (letter (t + i)) hxl
   exact e_bin (s1:=s) (s2:=s) (x:=.str (x.take a.toNat ++ [letter (t + i)])) (e_bin (s1:=s) (s2:=s) (sl_str x a s ha0 (by lia)) (e_sub (s1:=s) (s2:=s) rfl rfl (abc_at (t + i) s)) (b_str _ _ s h1)) (sl_str2 x a s ha0 (by lia)) (b_str _ _ s h2)
  ·show V.lst ([] ++ _) = _
   rw [List.nil_append,List.map_map,List.map_map]; rfl
 ·refine st_if (t:=true) (congrArg (fun b=>Res.ok (V.bool b) s) hb) (st_ret (e_comp rfl hit (comp_map s s true (.int (1 + m)) 8 _ _ (fun v=>match v with | .int i=>V.str ((x ++ qwe).take (i + 1).toNat) | _=>.none) rfl _ [] ?_ hmn)) ⟨?_,rfl⟩)
  ·intro y hy
   obtain ⟨i,-,rfl⟩:=List.mem_map.1 hy
   have h1:x.length + qwe.length ≤ 16777216:=by show x.length + 8 ≤ _; lia
   exact e_slice (s1:=s) (s2:=s) (s3:=s) (e_bin (s1:=s) (s2:=s) rfl rfl (b_str x qwe s h1)) rfl rfl (sl_str (x ++ qwe) (i + 1) s (by lia) (by rw [List.length_append]; exact h1))
  ·show V.lst ([] ++ _) = _
   rw [List.nil_append,List.map_map,List.map_map]; rfl
set_option genCtorIdx false in
structure KeysOk (ks:List (List Nat)):Prop where
 pos:0 < ks.length
 six:ks.length ≤ 6
 nd:ks.Nodup
theorem nodup_range {α:Type} (f:Nat → α) (m:Nat) (h:∀ i j,i < m → j < m → f i = f j → i = j):((List.range m).map f).Nodup:=by
 refine List.pairwise_map.2 (List.Pairwise.imp_of_mem (fun ha hb hlt e=>?_) List.pairwise_lt_range)
 have:=h _ _ (List.mem_range.1 ha) (List.mem_range.1 hb) e
 lia
theorem letter_abc (x:Int):97 ≤ letter x ∧ letter x ≤ 122:=by
 rw [letter_eq]
 obtain ⟨h1,h2⟩:=fmod_range x 26 (by decide)
 lia
theorem rest_abc (z:Nat) (t:Int):∀ c ∈ restOf z t,97 ≤ c ∧ c ≤ 122:=by
 intro c hc
 obtain ⟨k,-,rfl⟩:=List.mem_map.1 hc
 exact letter_abc _
theorem take_inj {l:List Nat} (h:8 ≤ l.length) (i j:Nat) (hi:i < 6) (hj:j < 6) (e:l.take (i + 1) = l.take (j + 1)):i = j:=by
 have:=congrArg List.length e
 rw [List.length_take,List.length_take,Nat.min_eq_left (by lia),Nat.min_eq_left (by lia)] at this
 exact Nat.succ.inj this
theorem letter_inj (t:Int) (i j:Nat) (hi:i < 6) (hj:j < 6) (e:letter (t + i) = letter (t + j)):i = j:=by
 rw [letter_eq,letter_eq,fmod_pos _ _ (by decide),fmod_pos _ _ (by decide)] at e
 have e1:=congrArg Int.ofNat (Nat.add_left_cancel e)
 rw [Int.ofNat_eq_natCast,Int.ofNat_eq_natCast,Int.toNat_of_nonneg (Int.emod_nonneg _ (by decide)),Int.toNat_of_nonneg (Int.emod_nonneg _ (by decide))] at e1
 obtain ⟨k,hk⟩:=Int.dvd_of_emod_eq_zero (Int.emod_eq_emod_iff_emod_sub_eq_zero.mp e1)
 rw [Int.add_sub_add_left] at hk
 omega
theorem keysAt_ok {m:Nat} (h0:0 < m) (h6:m ≤ 6) (z a:Nat) (t:Int) (b:Bool):KeysOk (keysAt m z a t b):=by
 cases b with
 | true=>exact ⟨by rw [keysAt,List.length_map,List.length_range]; exact h0,by rw [keysAt,List.length_map,List.length_range]; exact h6,nodup_range _ _ fun i j hi hj e=>take_inj (by rw [List.length_append]; exact Nat.le_add_left 8 _) i j (Nat.lt_of_lt_of_le hi h6) (Nat.lt_of_lt_of_le hj h6) e⟩
 | false=>exact ⟨by rw [keysAt,List.length_map,List.length_range]; exact h0,by rw [keysAt,List.length_map,List.length_range]; exact h6,nodup_range _ _ fun i j hi hj e=>letter_inj t i j (Nat.lt_of_lt_of_le hi h6) (Nat.lt_of_lt_of_le hj h6) (List.head_eq_of_cons_eq (List.append_cancel_left (List.append_cancel_right e)))⟩
theorem keys_ok (c:Int):KeysOk (keysOf c):=by
 obtain ⟨h0,h1⟩:=fmod_range c 6 (by decide)
 exact keysAt_ok (by omega) (by omega) _ _ _ _
noncomputable def AllA (R:V → V → Prop):List V → List V → Prop
 | [],[]=>True
 | x :: l,y :: m=>R x y ∧ AllA R l m
 | _,_=>False
theorem AllA.len {R:V → V → Prop}:∀ {a b:List V},AllA R a b → a.length = b.length
 | [],[],_=>rfl
 | x :: l,y :: m,h=>by simp [AllA.len h.2]
 | [],_ :: _,h=>h.elim
 | _ :: _,[],h=>h.elim
theorem AllA.get {R:V → V → Prop}:∀ {a b:List V},AllA R a b → ∀ (i:Nat) (h:i < a.length) (h':i < b.length),R a[i] b[i]
 | x :: l,y :: m,h,0,_,_=>h.1
 | x :: l,y :: m,h,i + 1,h1,h2=>AllA.get h.2 i (by simpa using h1) (by simpa using h2)
 | [],_,_,_,h1,_=>by simp at h1
 | _ :: _,[],h,_,_,_=>h.elim
theorem AllA.map {α:Type} {R:V → V → Prop} {f g:α → V}:∀ (l:List α),(∀ x ∈ l,R (f x) (g x)) → AllA R (l.map f) (l.map g)
 | [],_=>trivial
 | x :: l,h=>⟨h x (by simp),AllA.map l fun y hy=>h y (by simp [hy])⟩
noncomputable def Alike (s:MS):Nat → V → V → Prop
 | 0,a,b=>(∃ x,a = .int x ∧ b = .int x) ∨ (∃ x,a = .str x ∧ b = .str x)
 | d + 1,a,b=>((∃ x,a = .int x ∧ b = .int x) ∨ (∃ x,a = .str x ∧ b = .str x)) ∨
  ∃ k la lb,seqOf s a = some (k,la) ∧ seqOf s b = some (k,lb) ∧ la.length ≤ 16777216 ∧ AllA (Alike s d) la lb
theorem alike_int {s:MS} (d:Nat) (x:Int):Alike s d (.int x) (.int x):=by
 cases d
 ·exact .inl ⟨x,rfl,rfl⟩
 ·exact .inl (.inl ⟨x,rfl,rfl⟩)
theorem alike_str {s:MS} (d:Nat) (x:List Nat):Alike s d (.str x) (.str x):=by
 cases d
 ·exact .inr ⟨x,rfl,rfl⟩
 ·exact .inl (.inr ⟨x,rfl,rfl⟩)
theorem alike_tup {s:MS} {d:Nat} {la lb:List V} (hl:la.length ≤ 16777216) (h:AllA (Alike s d) la lb):Alike s (d + 1) (.tup la) (.tup lb) :=
 .inr ⟨false,la,lb,rfl,rfl,hl,h⟩
noncomputable def seqTag (k:Bool):Tag:=match k with | true=>.list | false=>.tuple
theorem tag_seq {s:MS} {a:V} {k:Bool} {l:List V} (h:seqOf s a = some (k,l)):tagOf s a = some (seqTag k):=by
 cases a with
 | tup=>cases h; rfl
 | lst=>cases h; rfl
 | ref r =>
  have h:(match s.heap r with | some (.list l)=>some (true,l) | _=>none) = some (k,l):=h
  show (match s.heap r with | some (.list _)=>some Tag.list | some (.dict _)=>some .dict | _=>none) = _
  cases e:s.heap r with
  | none=>rw [e] at h; exact no_none h
  | some o =>
   rw [e] at h
   cases o with
   | list m=>cases h; rfl
   | _=>exact no_none h
 | _=>exact no_none h
theorem kinds_tag {s:MS} {v:V} {g:Tag} (h:tagOf s v = some g) (k:Kind):isKind P s v k = kindHas g k:=by
 cases v with
 | exc=>exact no_none h
 | ref r =>
  show (match tagOf s (.ref r) with | some g=>kindHas g k | none=>none) = _
  rw [h]
 | _=>cases h; rfl
theorem kind1 {s:MS} {v:V} {g:Tag} {k:Kind} {t:Bool} (h:tagOf s v = some g) (hk:kindHas g k = some t):isKinds P s v [k] = some t:=by
 rw [isKinds,kinds_tag h,hk]; cases t <;> rfl
theorem kind2 {s:MS} {v:V} {k:Bool} (h:tagOf s v = some (seqTag k)):isKinds P s v [.list,.tuple] = some true:=by
 rw [isKinds,kinds_tag h]
 cases k
 ·show isKinds P s v [.tuple] = _
  exact kind1 h rfl
 ·rfl
theorem all_true:∀ xs:List V,allTrue (xs.map fun _=>V.bool true) = some true
 | []=>rfl
 | x :: r=>by rw [List.map_cons,allTrue,all_true r]; rfl
theorem len_seq {s:MS} {a:V} {k:Bool} {l:List V} (h:seqOf s a = some (k,l)):lenV a s = .ok (.int l.length) s:=by
 cases a with
 | tup=>cases h; rfl
 | lst=>cases h; rfl
 | ref r =>
  show (match seqOf s (.ref r) with | some p=>Res.ok (V.int p.2.length) s | none=>.stuck) = _
  rw [h]
 | _=>exact no_none h
theorem alike_flat {f:Nat} (hf:P.fns f = some (f_alike f)) (n:Nat) (a b:V) (s:MS) (h:(∃ x,a = .int x ∧ b = .int x) ∨ (∃ x,a = .str x ∧ b = .str x)):run P (n + 1) f [a,b] s = .ok (.bool true) s:=by
 refine okr_eq (okr_run (fn:=f_alike f) hf rfl ?_)
 rcases h with ⟨x,rfl,rfl⟩ | ⟨x,rfl,rfl⟩
 ·exact st_if (t:=false) rfl (st_next (st_if (t:=false) rfl (st_next (st_ret (congrArg (fun t=>Res.ok (V.bool t) s) (decide_eq_true (rfl:x = x))) ⟨rfl,rfl⟩))))
 ·exact st_if (t:=false) rfl (st_next (st_if (t:=true) rfl (st_ret (congrArg (fun t=>Res.ok (V.bool t) s) (decide_eq_true (rfl:x = x))) ⟨rfl,rfl⟩)))
theorem run_alike {f:Nat} (hf:P.fns f = some (f_alike f)):∀ (d n:Nat) (a b:V) (s:MS),Alike s d a b → run P (n + d + 1) f [a,b] s = .ok (.bool true) s
 | 0,n,a,b,s,h=>alike_flat hf n a b s h
 | d + 1,n,a,b,s,h=>by
  rcases h with h | ⟨k,la,lb,ha,hb,h0,h⟩
  ·exact alike_flat hf (n + (d + 1)) a b s h
  ·have hl:=h.len
   have t1:=tag_seq ha
   have t2:=tag_seq hb
   refine okr_eq (okr_run (fn:=f_alike f) hf rfl ?_)
   refine st_if (t:=true) (e_isinst rfl (kind2 t2)) (st_if (t:=false) (s':=s) ?_ (st_next (st_if (t:=false) (s':=s) ?_ (st_next (st_retQ (R:=fun v t=>v = .bool true ∧ t = s) ?_ fun v t h=>h)))))
   ·cases k
    ·exact e_or2 (t:=false) (u:=false) (e_cmp (e_isinst rfl (kind1 t2 rfl)) (e_isinst rfl (kind1 t1 rfl)) rfl) fun _=>e_cmp (e_isinst rfl (kind1 t2 rfl)) (e_isinst rfl (kind1 t1 rfl)) rfl
    ·exact e_or2 (t:=false) (u:=false) (e_cmp (e_isinst rfl (kind1 t2 rfl)) (e_isinst rfl (kind1 t1 rfl)) rfl) fun _=>e_cmp (e_isinst rfl (kind1 t2 rfl)) (e_isinst rfl (kind1 t1 rfl)) rfl
   ·refine e_cmp (e_prim rfl (len_seq ha)) (e_prim rfl (len_seq hb)) ?_
    rw [hl,c_neI]; simp
   ·refine e_primQ (R':=fun v t=>v = .lst (((List.range lb.length).map fun (i:Nat)=>V.int i).map fun _=>.bool true) ∧ t = s) (e_compQ (e_prim rfl (len_seq hb)) (items_range s lb.length (by lia) (by lia)) ?_) ?_
    ·refine okr_compF (fun _=>.bool true) (stays_range ..) (by simp [sizeMax]; lia) ?_ ⟨rfl,rfl⟩
     intro x hx
     obtain ⟨i,hi,rfl⟩:=List.mem_map.1 hx
     have hi:i < lb.length:=by simpa using hi
     exact okr_of (e_call (e_cons (e_sub rfl rfl (i_seq ha i (by lia))) (e_cons (e_sub rfl rfl (i_seq hb i hi)) rfl)) (run_alike hf d n _ _ s (h.get i (by lia) hi))) ⟨rfl,rfl⟩
    ·rintro v t ⟨rfl,rfl⟩
     exact okr_of (congrArg (okB t) (all_true _)) ⟨rfl,rfl⟩
end Mine
end
section
namespace Mine
inductive St where | here | owes | gone
 deriving DecidableEq
noncomputable def stS:St → List Nat
 | .here=>[104,101,114,101]
 | .owes=>[111,119,101,115]
 | .gone=>[103,111,110,101]
noncomputable abbrev Mark:=Int × Int × Int
set_option genCtorIdx false in
structure Row where
 st:St
 turn:Int
 amt:Int
 marks:List Mark
noncomputable abbrev Key:=List Nat
noncomputable abbrev Known:=List (Key × Row)
inductive Letter where
 | call (h c n:Int) (k:Key) (w:W)
 | parcel (h:Int) (k:Key) (t a:Int) (ms:List Mark)
 | taken (h:Int) (k:Key) (t:Int)
 | answer (c n told:Int)
set_option genCtorIdx false in
structure LRow where
 c:Int
 n:Int
 k:Key
 w:W
 told:Int
noncomputable def markV (m:Mark):V:=.tup [.int m.1,.int m.2.1,.int m.2.2]
noncomputable def marksV (ms:List Mark):V:=.tup (ms.map markV)
noncomputable def rowV (r:Row):V:=.tup [.str (stS r.st),.int r.turn,.int r.amt,marksV r.marks]
noncomputable def knownD (k:Known):List (V × V):=k.map fun p=>(.str p.1,rowV p.2)
noncomputable def letV:Letter → V
 | .call h c n k w=>.tup [.str [99,97,108,108],.int h,.int c,.int n,.str k,wv w]
 | .parcel h k t a ms=>.tup [.str [112,97,114,99,101,108],.int h,.str k,.int t,.int a,marksV ms]
 | .taken h k t=>.tup [.str [116,97,107,101,110],.int h,.str k,.int t]
 | .answer c n told=>.tup [.str [97,110,115,119,101,114],.int c,.int n,.int told]
noncomputable def lrowV (r:LRow):V:=.tup [.int r.c,.int r.n,.str r.k,wv r.w,.int r.told]
noncomputable def kget (key:Key):Known → Option Row
 | []=>none
 | (a,r) :: l=>if a = key then some r else kget key l
noncomputable def kput (key:Key) (x:Row):Known → Known
 | []=>[(key,x)]
 | (a,r) :: l=>if a = key then (a,x) :: l else (a,r) :: kput key x l
theorem dfind_known (key:Key):∀ k:Known,dfind (.str key) (knownD k) = (kget key k).map rowV
 | []=>rfl
 | (a,r) :: l=>by
  by_cases h:a = key
  ·rw [kget,if_pos h]; exact dfind_hit (decide_eq_true h)
  ·rw [kget,if_neg h]; exact (dfind_miss (a:=.str a) (k:=.str key) (decide_eq_false h)).trans (dfind_known key l)
theorem dput_known (key:Key) (x:Row):∀ k:Known,dput (.str key) (rowV x) (knownD k) = knownD (kput key x k)
 | []=>rfl
 | (a,r) :: l=>by
  by_cases h:a = key
  ·rw [kput,if_pos h]; exact dput_hit (decide_eq_true h)
  ·rw [kput,if_neg h]; exact (dput_miss (a:=.str a) (k:=.str key) (decide_eq_false h)).trans (congrArg (_ :: ·) (dput_known key x l))
theorem kget_kput (key key':Key) (x:Row):∀ k:Known,kget key' (kput key x k) = if key' = key then some x else kget key' k
 | []=>by
  by_cases h:key' = key
  ·subst h; rw [if_pos rfl]; exact if_pos rfl
  ·rw [if_neg h]; exact if_neg fun e=>h e.symm
 | (a,r) :: l=>by
  have ih:=kget_kput key key' x l
  by_cases h1:a = key
  ·subst h1
   rw [kput,if_pos rfl]
   by_cases h:key' = a
   ·subst h; rw [if_pos rfl]; exact if_pos rfl
   ·rw [if_neg h,kget,kget,if_neg fun e=>h e.symm,if_neg fun e=>h e.symm]
  ·rw [kput,if_neg h1,kget]
   by_cases h2:a = key'
   ·subst h2; rw [if_pos rfl,if_neg h1,kget,if_pos rfl]
   ·rw [if_neg h2,ih,kget,if_neg h2]
theorem keys_kput (key:Key) (x:Row):∀ (k:Known) (r:Row),kget key k = some r → (kput key x k).map (·.1) = k.map (·.1)
 | [],_,h=>by cases h
 | (a,r') :: l,r,h=>by
  by_cases h1:a = key
  ·rw [kput,if_pos h1]; rfl
  ·rw [kget,if_neg h1] at h
   rw [kput,if_neg h1,List.map_cons,List.map_cons,keys_kput key x l r h]
theorem mem_kput {key:Key} {x:Row}:∀ {k:Known} {p:Key × Row},p ∈ kput key x k → p = (key,x) ∨ p ∈ k
 | [],p,h=>by
  rcases List.mem_cons.1 h with h | h
  ·exact .inl h
  ·cases h
 | (a,r) :: l,p,h=>by
  by_cases h1:a = key
  ·rw [kput,if_pos h1] at h
   rcases List.mem_cons.1 h with h | h
   ·rw [h1] at h; exact .inl h
   ·exact .inr (List.mem_cons_of_mem _ h)
  ·rw [kput,if_neg h1] at h
   rcases List.mem_cons.1 h with h | h
   ·exact .inr (h ▸ List.mem_cons_self ..)
   ·exact (mem_kput h).imp id (List.mem_cons_of_mem _)
theorem kget_mem {key:Key}:∀ {k:Known} {r:Row},kget key k = some r → (key,r) ∈ k
 | [],_,h=>by cases h
 | (a,r') :: l,r,h=>by
  by_cases h1:a = key
  ·rw [kget,if_pos h1] at h; cases h; subst h1; exact List.mem_cons_self ..
  ·rw [kget,if_neg h1] at h; exact List.mem_cons_of_mem _ (kget_mem h)
theorem kget_of {key:Key}:∀ {k:Known},key ∈ k.map (·.1) → ∃ r,kget key k = some r
 | [],h=>by cases h
 | (a,r') :: l,h=>by
  by_cases h1:a = key
  ·exact ⟨r',if_pos h1⟩
  ·rcases List.mem_cons.1 h with h | h
   ·exact (h1 h.symm).elim
   ·obtain ⟨r,hr⟩:=kget_of h
    exact ⟨r,(if_neg h1).trans hr⟩
noncomputable def mfind (c:Int):List Mark → Option (Int × Int)
 | []=>none
 | m :: l=>if m.1 = c then some m.2 else mfind c l
noncomputable def mins (x:Mark):List Mark → List Mark
 | []=>[x]
 | m :: l=>if x.1 < m.1 then x :: m :: l else m :: mins x l
noncomputable def mput (x:Mark) (ms:List Mark):List Mark:=mins x (ms.filter fun m=>!decide (m.1 = x.1))
noncomputable def Up (a:Int):List Mark → Prop
 | []=>True
 | m :: l=>a ≤ m.1 ∧ m.1 < 6 ∧ Up (m.1 + 1) l
noncomputable def MOk (ms:List Mark):Prop:=Up 0 ms
theorem Up.le {a b:Int} (h:a ≤ b):∀ {ms:List Mark},Up b ms → Up a ms
 | [],_=>trivial
 | m :: l,⟨h1,h2,h3⟩=>⟨Int.le_trans h h1,h2,h3⟩
theorem Up.len:∀ {ms:List Mark} {a:Int},0 ≤ a → a ≤ 6 → Up a ms → (ms.length:Int) ≤ 6 - a
 | [],a,h0,h6,_=>by show (0:Int) ≤ _; lia
 | m :: l,a,h0,h6,⟨h1,h2,h3⟩=>by
  have:=Up.len (a:=m.1 + 1) (by lia) (by lia) h3
  rw [List.length_cons]; lia
theorem Up.filter (p:Mark → Bool):∀ {ms:List Mark} {a:Int},Up a ms → Up a (ms.filter p)
 | [],_,_=>trivial
 | m :: l,a,⟨h1,h2,h3⟩=>by
  rw [List.filter_cons]
  split
  ·exact ⟨h1,h2,Up.filter p h3⟩
  ·exact (Up.filter p h3).le (by lia)
theorem Up.mem:∀ {ms:List Mark} {a:Int},Up a ms → ∀ m ∈ ms,a ≤ m.1
 | [],_,_,m,h=>by cases h
 | x :: l,a,⟨h1,h2,h3⟩,m,h=>by
  rcases List.mem_cons.1 h with rfl | h
  ·exact h1
  ·have:=Up.mem h3 m h; lia
theorem Up.mins {x:Mark}:∀ {ms:List Mark} {a:Int},Up a ms → (∀ m ∈ ms,m.1 ≠ x.1) → a ≤ x.1 → x.1 < 6 → Up a (mins x ms)
 | [],a,_,_,h1,h2=>⟨h1,h2,trivial⟩
 | m :: l,a,⟨g1,g2,g3⟩,hn,h1,h2=>by
  have hm:=hn m (List.mem_cons_self ..)
  rw [Mine.mins]
  split
  ·rename_i h; exact ⟨h1,h2,by lia,g2,g3⟩
  ·rename_i h; exact ⟨g1,g2,Up.mins g3 (fun y hy=>hn y (List.mem_cons_of_mem _ hy)) (by lia) h2⟩
theorem not_mem_filter (ms:List Mark) (c:Int):∀ m ∈ ms.filter fun m=>!decide (m.1 = c),m.1 ≠ c:=fun m h=>by
 have:=(List.mem_filter.1 h).2
 simpa using this
theorem MOk.put {ms:List Mark} (h:MOk ms) {x:Mark} (h0:0 ≤ x.1) (h6:x.1 < 6):MOk (mput x ms) :=
 Up.mins (Up.filter _ h) (not_mem_filter ms x.1) h0 h6
theorem Up.rising:∀ {ms:List Mark} {a:Int},Up a ms → Mine.rising (ms.map (·.1)) = true
 | [],_,_=>rfl
 | [m],_,_=>rfl
 | m :: m' :: l,a,⟨_,_,h⟩=>by
  have hr:=Up.rising h
  show (decide (m.1 < m'.1) && Mine.rising (m'.1 :: l.map (·.1))) = true
  rw [decide_eq_true (by have:=h.1; omega)]; exact hr
theorem mapM_first:∀ ms:List Mark,(ms.map markV).mapM firstInt = some (ms.map (·.1))
 | []=>rfl
 | m :: l=>by rw [List.map_cons,List.mapM_cons,mapM_first l]; rfl
theorem map_getD (L:List V):∀ (n k:Nat),k + n ≤ L.length → (List.range n).map (fun i=>L.getD (k + i) .none) = (L.drop k).take n:=fun n k h=>by
 refine List.ext_getElem? fun i=>?_
 by_cases hi:i < n
 ·rw [List.getElem?_map,List.getElem?_range hi,List.getElem?_take,if_pos hi,List.getElem?_drop]
  show some (L.getD (k + i) .none) = _
  rw [List.getD_eq_getElem?_getD,List.getElem?_eq_getElem (by lia)]; rfl
 ·rw [List.getElem?_eq_none (by rw [List.length_map,List.length_range]; lia),List.getElem?_take,if_neg hi]
theorem pos_mins (x:Mark):∀ ms:List Mark,posOf x.1 (ms.map (·.1)) ≤ ms.length ∧ mins x ms = ms.take (posOf x.1 (ms.map (·.1))) ++ x :: ms.drop (posOf x.1 (ms.map (·.1)))
 | []=>⟨Nat.le_refl _,rfl⟩
 | m :: l=>by
  obtain ⟨h1,h2⟩:=pos_mins x l
  rw [List.map_cons,posOf,mins]
  split
  ·exact ⟨Nat.zero_le _,rfl⟩
  ·exact ⟨Nat.succ_le_succ h1,congrArg (m :: ·) h2⟩
theorem insRow_mins (x:Mark) (ms:List Mark):(wantL ms.length (posOf x.1 (ms.map (·.1)))).map (fun i=>(ms.map markV ++ [markV x]).getD i .none) = (mins x ms).map markV:=by
 obtain ⟨h1,h2⟩:=pos_mins x ms
 rw [h2]
 generalize posOf x.1 (ms.map (·.1)) = p at h1
 have hl:(ms.map markV).length = ms.length:=List.length_map ..
 have e1:=map_getD (ms.map markV ++ [markV x]) p 0 (by rw [List.length_append,hl]; lia)
 have e2:=map_getD (ms.map markV ++ [markV x]) (ms.length - p) p (by rw [List.length_append,hl]; show p + _ ≤ _ + 1; lia)
 have e3:(ms.map markV ++ [markV x]).getD ms.length .none = markV x:=by
  rw [List.getD_eq_getElem?_getD,List.getElem?_append_right (by lia),hl,Nat.sub_self]; rfl
 rw [wantL,List.map_append,List.map_cons,List.map_map,e3,List.map_append,List.map_cons]
 congr 1
 ·refine Eq.trans (List.map_congr_left fun i _=>by rw [Nat.zero_add]) (e1.trans ?_)
  rw [List.drop_zero,List.take_append_of_le_length (by lia),List.map_take]
 ·congr 1
  refine e2.trans ?_
  rw [List.drop_append_of_le_length (by lia),List.take_append_of_le_length (by rw [List.length_drop]; lia),List.take_of_length_le (by rw [List.length_drop]; lia),List.map_drop]
theorem sorted_marks {ms:List Mark} {x:Mark} (h:Up 0 ms) (hn:∀ m ∈ ms,m.1 ≠ x.1) (h0:0 ≤ x.1) (h6:x.1 < 6):sortedLast (ms.map markV ++ [markV x]) = some ((mins x ms).map markV):=by
 have hl:((mins x ms).length:Int) ≤ 6:=by have:=Up.len (by lia) (by lia) (Up.mins h hn h0 h6); lia
 have hlen:∀ ms:List Mark,(mins x ms).length = ms.length + 1:=by
  intro ms
  induction ms with
  | nil=>rfl
  | cons m l ih=>rw [mins]; split; rfl; rw [List.length_cons,ih]; rfl
 rw [hlen] at hl
 have e:(ms.map markV ++ [markV x]).reverse = markV x :: (ms.map markV).reverse:=by rw [List.reverse_append]; rfl
 rw [sortedLast,e]
 dsimp only
 rw [List.reverse_reverse,mapM_first]
 show (if (rising (ms.map (·.1)) && !(ms.map (·.1)).contains x.1 && decide ((ms.map markV ++ [markV x]).length ≤ 6)) = true then some ((wantL (ms.map (·.1)).length (posOf x.1 (ms.map (·.1)))).map fun i=>(ms.map markV ++ [markV x]).getD i .none) else none) = _
 rw [List.length_map,insRow_mins,h.rising,decide_eq_true (by rw [List.length_append,List.length_map]; show ms.length + 1 ≤ 6; lia)]
 have hc:(ms.map (·.1)).contains x.1 = false:=by
  cases q:(ms.map (·.1)).contains x.1 with
  | false=>rfl
  | true =>
   rw [List.contains_iff_mem] at q
   obtain ⟨m,hm,e⟩:=List.mem_map.1 q
   exact (hn m hm e).elim
 rw [hc]; rfl
set_option genCtorIdx false in
structure HS where
 num:Int
 known:Known
 written:Known
 laid:List Letter
 fresh:List LRow
noncomputable def HS.has (h:HS) (key:Key):Bool:=match kget key h.known with
 | some r=>decide (r.st = .here)
 | none=>false
noncomputable def HS.owes (h:HS):List Key:=(h.known.filter fun p=>decide (p.2.st = .owes)).map (·.1)
noncomputable def parcelOf (num:Int) (key:Key) (r:Row):Letter:=.parcel (1 - num) key (r.turn + 1) r.amt r.marks
noncomputable def HS.nudge (h:HS):List Letter:=(h.written.filter fun p=>decide (p.2.st = .owes)).map fun p=>parcelOf h.num p.1 p.2
noncomputable def HS.move (h:HS) (key:Key) (r:Row):HS:={ h with known:=kput key { r with st:=.owes } h.known,laid:=h.laid ++ [parcelOf h.num key r] }
noncomputable def HS.write (h:HS):HS:={ h with written:=h.known,laid:=[],fresh:=[] }
noncomputable def HS.sleep (h:HS):HS:={ h with known:=h.written,laid:=[],fresh:=[] }
noncomputable def HS.again (h:HS) (c n told:Int):HS:={ h with laid:=h.laid ++ [.answer c n told] }
noncomputable def HS.first (h:HS) (c n:Int) (key:Key) (w:W) (r:Row):HS :=
 { h with known:=kput key ⟨.here,r.turn,(dn r.amt w).1,mput (c,n,(dn r.amt w).2) r.marks⟩ h.known,laid:=h.laid ++ [.answer c n (dn r.amt w).2],fresh:=h.fresh ++ [⟨c,n,key,w,(dn r.amt w).2⟩] }
noncomputable def HS.called (h:HS) (c n:Int) (key:Key) (w:W) (r:Row):HS:=match mfind c r.marks with
 | some p=>if n < p.1 then h else if p.1 = n then h.again c n p.2 else h.first c n key w r
 | none=>h.first c n key w r
noncomputable def HS.came (h:HS):Letter → HS
 | .call _ c n key w=>(match kget key h.known with
  | some r=>if r.st = .here then h.called c n key w r else h
  | none=>h)
 | .parcel _ key t a ms=>(match kget key h.known with
  | some r=>{ h with known:=if r.turn < t then kput key ⟨.here,t,a,ms⟩ h.known else h.known,laid:=h.laid ++ [.taken (1 - h.num) key t] }
  | none=>h)
 | .taken _ key t=>(match kget key h.known with
  | some r=>if r.st = .owes ∧ t = r.turn + 1 then { h with known:=kput key ⟨.gone,r.turn,0,[]⟩ h.known } else h
  | none=>h)
 | .answer _ _ _=>h
section
variable {h:HS} {hh c n tn am:Int} {key:Key} {w:W} {r:Row} {ms:List Mark}
theorem came_call (hk:kget key h.known = some r):h.came (.call hh c n key w) = if r.st = .here then h.called c n key w r else h:=by delta HS.came; dsimp only; rw [hk]
theorem came_call0 (hk:kget key h.known = none):h.came (.call hh c n key w) = h:=by delta HS.came; dsimp only; rw [hk]
theorem came_parcel (hk:kget key h.known = some r):h.came (.parcel hh key tn am ms) = { h with known:=if r.turn < tn then kput key ⟨.here,tn,am,ms⟩ h.known else h.known,laid:=h.laid ++ [.taken (1 - h.num) key tn] }:=by delta HS.came; dsimp only; rw [hk]
theorem came_parcel0 (hk:kget key h.known = none):h.came (.parcel hh key tn am ms) = h:=by delta HS.came; dsimp only; rw [hk]
theorem came_taken (hk:kget key h.known = some r):h.came (.taken hh key tn) = if r.st = .owes ∧ tn = r.turn + 1 then { h with known:=kput key ⟨.gone,r.turn,0,[]⟩ h.known } else h:=by delta HS.came; dsimp only; rw [hk]
theorem came_taken0 (hk:kget key h.known = none):h.came (.taken hh key tn) = h:=by delta HS.came; dsimp only; rw [hk]
end
noncomputable def HS.new (num:Int) (keys:List Key):HS :=
 let k:Known:=keys.foldl (fun k key=>kput key (if num = 0 then ⟨.here,0,0,[]⟩ else ⟨.gone,-1,0,[]⟩) k) []
 ⟨num,k,k,[],[]⟩
end Mine
end
section
namespace Mine
noncomputable def f_done:Fn:=⟨2,["amount","wish"],[.ite (.cmp (.sub (.loc 1) (.int 0)) .eq (.str [115,101,116])) [.ret (some (.tup [.sub (.loc 1) (.int 1),.loc 0]))] [],.ite (.cmp (.sub (.loc 1) (.int 0)) .eq (.str [97,100,100])) [.ret (some (.tup [.bin .add (.loc 0) (.sub (.loc 1) (.int 1)),.bin .add (.loc 0) (.sub (.loc 1) (.int 1))]))] [],.ret (some (.tup [.loc 0,.loc 0]))]⟩
noncomputable def f_House_init:Fn:=⟨3,["self","number","keys","key"],[.setattr (.loc 0) 0 (.loc 1),.setattr (.loc 0) 4 (.dictM 4 [] []),.for_ (.inl (.loc 3)) false (.loc 2) [.setitem (.attr (.loc 0) 4) (.loc 3) (.tup [.str [104,101,114,101],.int 0,.int 0,.tup []]),.ite (.cmp (.loc 1) .ne (.int 0)) [.setitem (.attr (.loc 0) 4) (.loc 3) (.tup [.str [103,111,110,101],.neg (.int 1),.int 0,.tup []])] []],.setattr (.loc 0) 5 (.dictC 5 (.attr (.loc 0) 4)),.setattr (.loc 0) 6 (.lstM 6 []),.setattr (.loc 0) 7 (.lstM 7 [])]⟩
noncomputable def f_House_has:Fn:=⟨2,["self","key"],[.ret (some (.and [.cmp (.loc 1) .isin (.attr (.loc 0) 4),.cmp (.sub (.sub (.attr (.loc 0) 4) (.loc 1)) (.int 0)) .eq (.str [104,101,114,101])]))]⟩
noncomputable def f_House_came:Fn:=⟨2,["self","letter","one"],[.ite (.cmp (.sub (.loc 1) (.int 0)) .eq (.str [99,97,108,108])) [.ite (.meth (.loc 0) 0 [.sub (.loc 1) (.int 4)]) [.expr (.meth (.loc 0) 3 [.sub (.loc 1) (.int 2),.sub (.loc 1) (.int 3),.sub (.loc 1) (.int 4),.sub (.loc 1) (.int 5)])] []] [.ite (.cmp (.sub (.loc 1) (.int 0)) .eq (.str [112,97,114,99,101,108])) [.ite (.cmp (.sub (.loc 1) (.int 3)) .gt (.sub (.sub (.attr (.loc 0) 4) (.sub (.loc 1) (.int 2))) (.int 1))) [.setitem (.attr (.loc 0) 4) (.sub (.loc 1) (.int 2)) (.tup [.str [104,101,114,101],.sub (.loc 1) (.int 3),.sub (.loc 1) (.int 4),.sub (.loc 1) (.int 5)])] [],.expr (.bm .append (.attr (.loc 0) 6) [.tup [.str [116,97,107,101,110],.bin .sub (.int 1) (.attr (.loc 0) 0),.sub (.loc 1) (.int 2),.sub (.loc 1) (.int 3)]])] [.assign 2 (.sub (.attr (.loc 0) 4) (.sub (.loc 1) (.int 2))),.ite (.and [.cmp (.sub (.loc 2) (.int 0)) .eq (.str [111,119,101,115]),.cmp (.sub (.loc 1) (.int 3)) .eq (.bin .add (.sub (.loc 2) (.int 1)) (.int 1))]) [.setitem (.attr (.loc 0) 4) (.sub (.loc 1) (.int 2)) (.tup [.str [103,111,110,101],.sub (.loc 2) (.int 1),.int 0,.tup []])] []]]]⟩
noncomputable def f_House_called:Fn:=⟨5,["self","caller","number","key","wish","one","mark","pair","marks",""],[.assign 5 (.sub (.attr (.loc 0) 4) (.loc 3)),.for_ (.inl (.loc 6)) false (.sub (.loc 5) (.int 3)) [.ite (.and [.cmp (.sub (.loc 6) (.int 0)) .eq (.loc 1),.cmp (.sub (.loc 6) (.int 1)) .gt (.loc 2)]) [.ret none] [],.ite (.and [.cmp (.sub (.loc 6) (.int 0)) .eq (.loc 1),.cmp (.sub (.loc 6) (.int 1)) .eq (.loc 2)]) [.expr (.bm .append (.attr (.loc 0) 6) [.tup [.str [97,110,115,119,101,114],.loc 1,.loc 2,.sub (.loc 6) (.int 2)]]),.ret none] []],.assign 7 (.call 2 [.sub (.loc 5) (.int 2),.loc 4]),.assign 8 (.bin .add (.comp none 9 false (.sub (.loc 5) (.int 3)) (some (.cmp (.sub (.loc 9) (.int 0)) .ne (.loc 1))) (.loc 9)) (.lst [.tup [.loc 1,.loc 2,.sub (.loc 7) (.int 1)]])),.setitem (.attr (.loc 0) 4) (.loc 3) (.tup [.str [104,101,114,101],.sub (.loc 5) (.int 1),.sub (.loc 7) (.int 0),.prim .tuple1 [.prim .sorted [.loc 8]]]),.expr (.bm .append (.attr (.loc 0) 6) [.tup [.str [97,110,115,119,101,114],.loc 1,.loc 2,.sub (.loc 7) (.int 1)]]),.expr (.bm .append (.attr (.loc 0) 7) [.tup [.loc 1,.loc 2,.loc 3,.loc 4,.sub (.loc 7) (.int 1)]])]⟩
noncomputable def f_House_parcel:Fn:=⟨3,["self","key","one"],[.ret (some (.tup [.str [112,97,114,99,101,108],.bin .sub (.int 1) (.attr (.loc 0) 0),.loc 1,.bin .add (.sub (.loc 2) (.int 1)) (.int 1),.sub (.loc 2) (.int 2),.sub (.loc 2) (.int 3)]))]⟩
noncomputable def f_House_move (xc:Nat):Fn:=⟨2,["self","key","one"],[.ite (.not (.meth (.loc 0) 0 [.loc 1])) [.raise xc] [],.assign 2 (.sub (.attr (.loc 0) 4) (.loc 1)),.setitem (.attr (.loc 0) 4) (.loc 1) (.tup [.str [111,119,101,115],.sub (.loc 2) (.int 1),.sub (.loc 2) (.int 2),.sub (.loc 2) (.int 3)]),.expr (.bm .append (.attr (.loc 0) 6) [.meth (.loc 0) 4 [.loc 1,.loc 2]])]⟩
noncomputable def f_House_write:Fn:=⟨1,["self","found"],[.setattr (.loc 0) 5 (.dictC 5 (.attr (.loc 0) 4)),.assign 1 (.tup [.attr (.loc 0) 6,.attr (.loc 0) 7]),.setattr (.loc 0) 6 (.lstM 6 []),.setattr (.loc 0) 7 (.lstM 7 []),.ret (some (.loc 1))]⟩
noncomputable def f_House_sleep:Fn:=⟨1,["self"],[.setattr (.loc 0) 4 (.dictC 4 (.attr (.loc 0) 5)),.setattr (.loc 0) 6 (.lstM 6 []),.setattr (.loc 0) 7 (.lstM 7 [])]⟩
noncomputable def f_House_nudge:Fn:=⟨1,["self",""],[.ret (some (.comp none 1 false (.attr (.loc 0) 5) (some (.cmp (.sub (.sub (.attr (.loc 0) 5) (.loc 1)) (.int 0)) .eq (.str [111,119,101,115]))) (.meth (.loc 0) 4 [.loc 1,.sub (.attr (.loc 0) 5) (.loc 1)])))]⟩
set_option genCtorIdx false in
structure HouseP (P:Prog):Prop where
 done:P.fns 2 = some f_done
 init:P.fns 20 = some f_House_init
 has:P.fns 21 = some f_House_has
 came:P.fns 23 = some f_House_came
 called:P.fns 24 = some f_House_called
 parcel:P.fns 25 = some f_House_parcel
 mhas:P.meths 1 0 = some 21
 mowes:P.meths 1 1 = some 22
 mcame:P.meths 1 2 = some 23
 mcalled:P.meths 1 3 = some 24
 mparcel:P.meths 1 4 = some 25
noncomputable def Fr (F:Lbl → Prop) (s s':MS):Prop:=(∀ l:Lbl,l.2 < s.cnt l.1 → ¬ F l → s'.heap l = s.heap l) ∧ ∀ k,s.cnt k ≤ s'.cnt k
theorem Fr.refl (F:Lbl → Prop) (s:MS):Fr F s s:=⟨fun _ _ _=>rfl,fun _=>Nat.le_refl _⟩
theorem Fr.trans {F:Lbl → Prop} {s s' s'':MS} (a:Fr F s s') (b:Fr F s' s''):Fr F s s'' :=
 ⟨fun l h n=>(b.1 l (Nat.lt_of_lt_of_le h (a.2 l.1)) n).trans (a.1 l h n),fun k=>Nat.le_trans (a.2 k) (b.2 k)⟩
theorem Fr.mono {F G:Lbl → Prop} {s s':MS} (a:Fr F s s') (h:∀ l,F l → G l):Fr G s s':=⟨fun l hl n=>a.1 l hl fun q=>n (h l q),a.2⟩
theorem Fr.put {F:Lbl → Prop} {s s':MS} (a:Fr F s s') {l:Lbl} (h:F l) (o:MObj):Fr F s (s'.put l o) :=
 ⟨fun x hx n=>(put_ne fun (e:x = l)=>n (e.symm ▸ h)).trans (a.1 x hx n),a.2⟩
noncomputable def At1 (l:Lbl):Lbl → Prop:=fun x=>x = l
theorem at1 (l:Lbl):At1 l l:=rfl
theorem cnt_new (s:MS) (k:Nat) (o:MObj) (j:Nat):s.cnt j ≤ (s.new k o).cnt j:=by
 show s.cnt j ≤ if j = k then s.cnt k + 1 else s.cnt j
 split
 ·rename_i e; subst e; exact Nat.le_succ _
 ·exact Nat.le_refl _
theorem cnt_self (s:MS) (k:Nat) (o:MObj):(s.new k o).cnt k = s.cnt k + 1:=if_pos rfl
theorem Fr.new {F:Lbl → Prop} {s s':MS} (a:Fr F s s') (k:Nat) (o:MObj):Fr F s (s'.new k o) :=
 ⟨fun x hx n=>(new_ne fun e=>by
   have h1:=a.2 x.1
   rw [e] at h1 hx
   exact Nat.lt_irrefl _ (Nat.lt_of_lt_of_le hx h1)).trans (a.1 x hx n),fun j=>Nat.le_trans (a.2 j) (cnt_new s' k o j)⟩
set_option genCtorIdx false in
structure HIx where
 k:Nat
 w:Nat
 la:Nat
 fr:Nat
noncomputable def hObj (num:Int) (x:HIx):MObj:=.inst 1 [(0,.int num),(4,.ref (4,x.k)),(5,.ref (5,x.w)),(6,.ref (6,x.la)),(7,.ref (7,x.fr))]
set_option genCtorIdx false in
structure HAt (s:MS) (i:Nat) (x:HIx) (h:HS):Prop where
 o:s.heap (2,i) = some (hObj h.num x)
 k:s.heap (4,x.k) = some (.dict (knownD h.known))
 w:s.heap (5,x.w) = some (.dict (knownD h.written))
 la:s.heap (6,x.la) = some (.list (h.laid.map letV))
 fr:s.heap (7,x.fr) = some (.list (h.fresh.map lrowV))
 io:i < s.cnt 2
 ik:x.k < s.cnt 4
 iw:x.w < s.cnt 5
 il:x.la < s.cnt 6
 ir:x.fr < s.cnt 7
noncomputable def HF (i:Nat) (x:HIx) (l:Lbl):Prop:=l = (2,i) ∨ l = (4,x.k) ∨ l = (5,x.w) ∨ l = (6,x.la) ∨ l = (7,x.fr)
theorem HAt.step {F:Lbl → Prop} {s s':MS} {i:Nat} {x:HIx} {h:HS} (a:HAt s i x h) (f:Fr F s s') (n:∀ l,HF i x l → ¬ F l):HAt s' i x h where
 o:=(f.1 _ a.io (n _ (.inl rfl))).trans a.o
 k:=(f.1 _ a.ik (n _ (.inr (.inl rfl)))).trans a.k
 w:=(f.1 _ a.iw (n _ (.inr (.inr (.inl rfl))))).trans a.w
 la:=(f.1 _ a.il (n _ (.inr (.inr (.inr (.inl rfl)))))).trans a.la
 fr:=(f.1 _ a.ir (n _ (.inr (.inr (.inr (.inr rfl)))))).trans a.fr
 io:=Nat.lt_of_lt_of_le a.io (f.2 2)
 ik:=Nat.lt_of_lt_of_le a.ik (f.2 4)
 iw:=Nat.lt_of_lt_of_le a.iw (f.2 5)
 il:=Nat.lt_of_lt_of_le a.il (f.2 6)
 ir:=Nat.lt_of_lt_of_le a.ir (f.2 7)
theorem HAt.laid {s:MS} {i:Nat} {x:HIx} {h:HS} (a:HAt s i x h) (l:List Letter):HAt (s.put (6,x.la) (.list (l.map letV))) i x { h with laid:=l } :=
 ⟨(put_ne (kind_ne (by decide))).trans a.o,(put_ne (kind_ne (by decide))).trans a.k,(put_ne (kind_ne (by decide))).trans a.w,put_self _ _ _,(put_ne (kind_ne (by decide))).trans a.fr,a.io,a.ik,a.iw,a.il,a.ir⟩
theorem HAt.fresh {s:MS} {i:Nat} {x:HIx} {h:HS} (a:HAt s i x h) (l:List LRow):HAt (s.put (7,x.fr) (.list (l.map lrowV))) i x { h with fresh:=l } :=
 ⟨(put_ne (kind_ne (by decide))).trans a.o,(put_ne (kind_ne (by decide))).trans a.k,(put_ne (kind_ne (by decide))).trans a.w,(put_ne (kind_ne (by decide))).trans a.la,put_self _ _ _,a.io,a.ik,a.iw,a.il,a.ir⟩
theorem HAt.known {s:MS} {i:Nat} {x:HIx} {h:HS} (a:HAt s i x h) (k:Known):HAt (s.put (4,x.k) (.dict (knownD k))) i x { h with known:=k } :=
 ⟨(put_ne (kind_ne (by decide))).trans a.o,put_self _ _ _,(put_ne (kind_ne (by decide))).trans a.w,(put_ne (kind_ne (by decide))).trans a.la,(put_ne (kind_ne (by decide))).trans a.fr,a.io,a.ik,a.iw,a.il,a.ir⟩
theorem HAt.laid1 {s:MS} {i:Nat} {x:HIx} {h:HS} (a:HAt s i x h) (L:Letter):HAt (s.put (6,x.la) (.list (h.laid.map letV ++ [letV L]))) i x { h with laid:=h.laid ++ [L] }:=by
 have:=a.laid (h.laid ++ [L])
 rwa [List.map_append] at this
theorem HAt.fresh1 {s:MS} {i:Nat} {x:HIx} {h:HS} (a:HAt s i x h) (L:LRow):HAt (s.put (7,x.fr) (.list (h.fresh.map lrowV ++ [lrowV L]))) i x { h with fresh:=h.fresh ++ [L] }:=by
 have:=a.fresh (h.fresh ++ [L])
 rwa [List.map_append] at this
set_option genCtorIdx false in
structure HZ (h:HS):Prop where
 la:h.laid.length < 16777000
 fr:h.fresh.length < 16777000
 k:h.known.length < 1000
 w:h.written.length < 1000
noncomputable def KOk (k:Known):Prop:=∀ p ∈ k,MOk p.2.marks
section
variable {P:Prog} (H:HouseP P) {n i:Nat} {x:HIx} {s:MS} {h:HS} {key:Key} {r:Row}
theorem len_map {α:Type} {f:α → V} {l:List α} (h:l.length < 16777000):(l.map f).length < 16777216:=by rw [List.length_map]; lia
theorem len_known {k:Known} (h:k.length < 1000):(knownD k).length < 16777216:=by rw [knownD,List.length_map]; lia
theorem len_known' {k:Known} (h:k.length < 1000):(knownD k).length ≤ 1000:=by rw [knownD,List.length_map]; lia
theorem st_here (st:St):decide (stS st = [104,101,114,101]) = decide (st = .here):=by cases st <;> rfl
theorem st_owes (st:St):decide (stS st = [111,119,101,115]) = decide (st = .owes):=by cases st <;> rfl
theorem row_of (hk:kget key h.known = some r):dfind (.str key) (knownD h.known) = some (.tup [.str (stS r.st),.int r.turn,.int r.amt,marksV r.marks]):=by
 rw [dfind_known,hk]; rfl
theorem c_inD {s:MS} {l:Lbl} {d:List (V × V)} (h:s.heap l = some (.dict d)) (key:Key):cmpOp .isin (.str key) (.ref l) s = .ok (.bool (dfind (.str key) d).isSome) s:=by
 have e:cmpOp.memb (.str key) (.ref l) s = some (dfind (.str key) d).isSome:=by
  delta cmpOp.memb seqOf; dsimp only; rw [h]; rfl
 show okB s (cmpOp.memb (.str key) (.ref l) s) = _
 rw [e]; rfl
include H
theorem run_done (n:Nat) (a:Int) (w:W) (s:MS):run P (n + 1) 2 [.int a,wv w] s = .ok (.tup [.int (dn a w).1,.int (dn a w).2]) s:=by
 refine okr_eq (okr_run H.done rfl ?_)
 cases w with
 | get=>exact st_if (t:=false) rfl (st_next (st_if (t:=false) rfl (st_next (st_ret rfl ⟨rfl,rfl⟩))))
 | set j=>exact st_if (t:=true) rfl (st_ret rfl ⟨rfl,rfl⟩)
 | add j=>exact st_if (t:=false) rfl (st_next (st_if (t:=true) rfl (st_ret rfl ⟨rfl,rfl⟩)))
theorem run_has (n:Nat) (a:HAt s i x h) (key:Key):run P (n + 1) 21 [.ref (2,i),.str key] s = .ok (.bool (h.has key)) s:=by
 refine okr_eq (okr_run H.has rfl ?_)
 obtain ⟨ho,hk,-⟩:=a
 have hin:ev P (run P n) (.cmp (.loc 1) .isin (.attr (.loc 0) 4)) [some (.ref (2,i)),some (.str key)] s = .ok (.bool (dfind (.str key) (knownD h.known)).isSome) s :=
  e_cmp rfl (by (repeat' first | exact rfl | apply e_attr | exact ga_ok (by assumption) rfl)) (c_inD hk key)
 rw [dfind_known] at hin
 unfold HS.has
 cases e:kget key h.known with
 | none =>
  rw [e] at hin
  exact st_ret (e_andF hin) ⟨rfl,rfl⟩
 | some r =>
  rw [e] at hin
  have hd:=row_of e
  refine st_ret (e_andT hin (e_and1 (by (repeat' first | exact rfl | apply e_attr | apply e_sub | apply e_cmp | exact ga_ok (by assumption) rfl | exact i_dict _ _ _ _ _ (by assumption) (by first | exact rfl | assumption))))) ⟨congrArg V.bool (st_here r.st),rfl⟩
theorem run_parcel (n:Nat) {num:Int} (ho:s.heap (2,i) = some (hObj num x)) (key:Key) (r:Row) :
  run P (n + 1) 25 [.ref (2,i),.str key,.tup [.str (stS r.st),.int r.turn,.int r.amt,marksV r.marks]] s = .ok (letV (parcelOf num key r)) s:=by
 refine okr_eq (okr_run H.parcel rfl ?_)
 exact st_ret (by (repeat' first | exact rfl | apply e_attr | apply e_bin | apply e_tup | apply e_cons | exact ga_ok (by assumption) rfl)) ⟨rfl,rfl⟩
omit H
noncomputable def others (c:Int) (ms:List Mark):List Mark:=ms.filter fun m=>!decide (m.1 = c)
noncomputable def notOf (c:Int) (m:V):Bool:=match m with | .tup [.int a,_,_]=>!decide (a = c) | _=>false
theorem filter_marks (c:Int):∀ ms:List Mark,(ms.map markV).filter (notOf c) = (others c ms).map markV
 | []=>rfl
 | m :: l=>by
  rw [others,List.map_cons,List.filter_cons,List.filter_cons]
  show (if (!decide (m.1 = c)) = true then _ else _) = _
  rw [filter_marks c l,others]
  split <;> rfl
theorem memb_map {α:Type} {f:α → V} {l:List α} {v:V} (h:v ∈ l.map f):∃ a,a ∈ l ∧ v = f a:=by
 obtain ⟨a,h1,h2⟩:=List.mem_map.1 h
 exact ⟨a,h1,h2.symm⟩
theorem mlen {ms:List Mark} (h:MOk ms):ms.length ≤ 6:=by have:=Up.len (by lia) (by lia) h; lia
theorem tuple_sorted {ms:List Mark} {c n t:Int} {s:MS} (h:MOk ms) (h0:0 ≤ c) (h6:c < 6) :
  prim .sorted [.lst ((others c ms).map markV ++ [.tup [.int c,.int n,.int t]])] s = .ok (.lst ((mput (c,n,t) ms).map markV)) s:=by
 have e:sortedLast ((others c ms).map markV ++ [V.tup [.int c,.int n,.int t]]) = some ((mput (c,n,t) ms).map markV):=sorted_marks (x:=(c,n,t)) (Up.filter _ h) (not_mem_filter ms c) h0 h6
 show (match sortedLast ((others c ms).map markV ++ [V.tup [.int c,.int n,.int t]]) with | some m=>Res.ok (V.lst m) s | none=>.stuck) = _
 rw [e]
noncomputable def MI (c n:Int) (all rem:List Mark):Prop:=mfind c all = mfind c rem ∨ (∃ p,mfind c all = some p ∧ p.1 < n ∧ ∀ x ∈ rem,x.1 ≠ c)
theorem MI.next {c n:Int} {all rem:List Mark} {m:Mark} (h:MI c n all (m :: rem)) (hc:m.1 ≠ c):MI c n all rem:=by
 rcases h with h | ⟨p,h1,h2,h3⟩
 ·rw [mfind,if_neg hc] at h; exact .inl h
 ·exact .inr ⟨p,h1,h2,fun x hx=>h3 x (List.mem_cons_of_mem _ hx)⟩
theorem MI.here {c n:Int} {all rem:List Mark} {m:Mark} (h:MI c n all (m :: rem)) (hc:m.1 = c):mfind c all = some m.2:=by
 rcases h with h | ⟨p,h1,h2,h3⟩
 ·rw [mfind,if_pos hc] at h; exact h
 ·exact (h3 m (List.mem_cons_self ..) hc).elim
theorem up_rest {c a:Int} {m:Mark} {rem:List Mark} (h:Up a (m :: rem)) (hc:m.1 = c):∀ x ∈ rem,x.1 ≠ c:=fun x hx e=>by
 have:=Up.mem h.2.2 x hx; lia
include H
theorem run_called (n:Nat) (a:HAt s i x h) (z:HZ h) (hk:kget key h.known = some r) (hm:MOk r.marks) {c num:Int} (h0:0 ≤ c) (h6:c < 6) (w:W) :
  OkR (run P (n + 2) 24 [.ref (2,i),.int c,.int num,.str key,wv w] s) fun v s'=>v = .none ∧ HAt s' i x (h.called c num key w r) ∧ Fr (HF i x) s s':=by
 have hd:=row_of hk
 have ho:=a.o
 have hkn:=a.k
 have hla:=a.la
 have hll:=len_map (f:=letV) z.la
 refine okr_run H.called rfl ?_
 refine st_assign (by (repeat' first | exact rfl | apply e_attr | apply e_sub | exact ga_ok (by assumption) rfl | exact i_dict _ _ _ _ _ (by assumption) (by first | exact rfl | assumption))) rfl ?_
 refine st_for (xs:=r.marks.map markV) rfl rfl rfl (okr_for (fun rem l t=>t = s ∧ (∃ rm,rem = List.map markV rm ∧ MI c num r.marks rm ∧ ∃ b,Up b rm) ∧ ∃ y,l = [some (.ref (2,i)),some (.int c),some (.int num),some (.str key),some (wv w),some (.tup [.str (stS r.st),.int r.turn,.int r.amt,marksV r.marks]),y,none,none,none]) ?_ ?_ _ _ _ ?_)
 ·rintro v rem l t ⟨rfl,⟨rm,e1,e2,b,e3⟩,y,rfl⟩
  cases rm with
  | nil=>cases e1
  | cons m rm =>
   cases e1
   refine ⟨rfl,?_⟩
   show OkR (exs P _ _ _ [_,_,_,_,_,_,some (markV m),_,_,_] t) _
   by_cases hc:m.1 = c
   ·have hf:=e2.here hc
    by_cases hgt:num < m.2.1
    ·refine st_if (t:=true) (e_andT (congrArg (fun q=>Res.ok (V.bool q) t) (decide_eq_true hc)) (e_and1 (congrArg (fun q=>Res.ok (V.bool q) t) (decide_eq_true hgt)))) ?_
     exact st_ret0 ⟨rfl,by rw [HS.called,hf]; show HAt t i x (if num < m.2.1 then h else _); rw [if_pos hgt]; exact a,.refl _ _⟩
    ·refine st_if (t:=false) (e_andT (congrArg (fun q=>Res.ok (V.bool q) t) (decide_eq_true hc)) (e_and1 (congrArg (fun q=>Res.ok (V.bool q) t) (decide_eq_false hgt)))) (st_next ?_)
     by_cases heq:m.2.1 = num
     ·refine st_if (t:=true) (e_andT (congrArg (fun q=>Res.ok (V.bool q) t) (decide_eq_true hc)) (e_and1 (congrArg (fun q=>Res.ok (V.bool q) t) (decide_eq_true heq)))) (st_expr (v:=.none) (s':=t.put (6,x.la) (.list (h.laid.map letV ++ [letV (.answer c num m.2.2)]))) (by (repeat' first | exact rfl | apply e_attr | apply e_bm | exact ga_ok (by assumption) rfl | exact bm_list (by assumption) | exact append_at _ _ _ _ (by assumption) (by assumption))) (st_ret0 ⟨rfl,?_,(Fr.refl _ _).put (.inr (.inr (.inr (.inl rfl)))) _⟩))
      rw [HS.called,hf]
      show HAt _ i x (if num < m.2.1 then h else if m.2.1 = num then h.again c num m.2.2 else _)
      rw [if_neg hgt,if_pos heq]
      exact a.laid1 (.answer c num m.2.2)
     ·refine st_if (t:=false) (e_andT (congrArg (fun q=>Res.ok (V.bool q) t) (decide_eq_true hc)) (e_and1 (congrArg (fun q=>Res.ok (V.bool q) t) (decide_eq_false heq)))) (st_next (st_nil ⟨rfl,⟨rm,rfl,.inr ⟨_,hf,by lia,up_rest e3 hc⟩,_,e3.2.2⟩,_,rfl⟩))
   ·exact st_if (t:=false) (e_andF (congrArg (fun q=>Res.ok (V.bool q) t) (decide_eq_false hc))) (st_next (st_if (t:=false) (e_andF (congrArg (fun q=>Res.ok (V.bool q) t) (decide_eq_false hc))) (st_next (st_nil ⟨rfl,⟨rm,rfl,e2.next hc,_,e3.2.2⟩,_,rfl⟩))))
 ·rintro l t ⟨rfl,⟨rm,e1,e2,b,e3⟩,y,rfl⟩
  refine ⟨rfl,?_⟩
  rw [seqQ_next]
  have hcd:h.called c num key w r = h.first c num key w r:=by
   unfold HS.called
   cases rm with
   | cons=>cases e1
   | nil =>
    rcases e2 with e2 | ⟨p,q1,q2,-⟩
    ·rw [e2]; rfl
    ·rw [q1]
     show (if num < p.1 then h else if p.1 = num then _ else _) = _
     rw [if_neg (by lia),if_neg (by lia)]
  rw [hcd]
  have hdn:=run_done H n r.amt w t
  refine st_assign (by (repeat' first | exact rfl | apply e_call | assumption)) rfl ?_
  generalize hp:dn r.amt w = p
  obtain ⟨p1,p2⟩:=p
  have hlen:(0:Nat) + (r.marks.map markV).length ≤ sizeMax:=by rw [List.length_map]; have:=mlen hm; show _ ≤ 16777216; lia
  have hl2:((others c r.marks).map markV).length + 1 ≤ 16777216:=by rw [List.length_map,others]; have:=mlen hm; have:=List.length_filter_le (fun m:Mark=>!decide (m.1 = c)) r.marks; lia
  refine st_assign (v:=.lst ((others c r.marks).map markV ++ [.tup [.int c,.int num,.int p2]])) (s':=t) (e_bin (x:=.lst ((others c r.marks).map markV)) (y:=.lst [.tup [.int c,.int num,.int p2]]) (e_comp (src:=marksV r.marks) (xs:=r.marks.map markV) rfl rfl ?_) rfl (b_lst _ _ _ hl2)) rfl ?_
  ·rw [← filter_marks]
   refine (comp_fm t t false (marksV r.marks) 9 _ _ _ (notOf c) id rfl (r.marks.map markV) [] ?_ ?_ hlen).trans (by rw [List.map_id]; rfl)
   ·intro v hv
    obtain ⟨m,-,rfl⟩:=memb_map hv
    rfl
   ·intro v hv _
    rfl
  have hks:=len_known z.k
  refine st_setitem (e_tup (e_cons rfl (e_cons (v:=.int r.turn) rfl (e_cons (v:=.int p1) rfl (e_cons (e_prim (e_cons (e_prim (e_cons rfl rfl) (tuple_sorted hm h0 h6)) rfl) rfl) rfl)))) rfl) (by (repeat' first | exact rfl | apply e_attr | exact ga_ok (by assumption) rfl)) rfl (setItem_dict _ _ _ _ _ hkn hks) ?_
  rw [show (V.tup [.str [104,101,114,101],.int r.turn,.int p1,.tup ((mput (c,num,p2) r.marks).map markV)]) = rowV ⟨.here,r.turn,p1,mput (c,num,p2) r.marks⟩ from rfl,dput_known]
  have a1:=a.known (kput key ⟨.here,r.turn,p1,mput (c,num,p2) r.marks⟩ h.known)
  have f1:Fr (HF i x) t _:=(Fr.refl (HF i x) t).put (.inr (.inl rfl)) (.dict (knownD (kput key ⟨.here,r.turn,p1,mput (c,num,p2) r.marks⟩ h.known)))
  generalize t.put (4,x.k) (.dict (knownD (kput key ⟨.here,r.turn,p1,mput (c,num,p2) r.marks⟩ h.known))) = t1 at a1 f1
  have ho1:=a1.o
  have hla1:=a1.la
  refine st_expr (v:=.none) (s':=t1.put (6,x.la) (.list (h.laid.map letV ++ [letV (.answer c num p2)]))) (by (repeat' first | exact rfl | apply e_attr | apply e_bm | exact ga_ok (by assumption) rfl | exact bm_list (by assumption) | exact append_at _ _ _ _ (by assumption) (by assumption))) ?_
  have a2:=a1.laid1 (.answer c num p2)
  have f2:=f1.put (l:=(6,x.la)) (.inr (.inr (.inr (.inl rfl)))) (.list (h.laid.map letV ++ [letV (.answer c num p2)]))
  generalize t1.put (6,x.la) (.list (h.laid.map letV ++ [letV (.answer c num p2)])) = t2 at a2 f2
  have ho2:=a2.o
  have hfr2:=a2.fr
  have hlf:=len_map (f:=lrowV) z.fr
  refine st_expr (v:=.none) (s':=t2.put (7,x.fr) (.list (h.fresh.map lrowV ++ [lrowV ⟨c,num,key,w,p2⟩]))) (by (repeat' first | exact rfl | apply e_attr | apply e_bm | exact ga_ok (by assumption) rfl | exact bm_list (by assumption) | exact append_at _ _ _ _ (by assumption) (by assumption))) (st_nil ⟨rfl,?_,f2.put (.inr (.inr (.inr (.inr rfl)))) _⟩)
  rw [HS.first,hp]; exact a2.fresh1 ⟨c,num,key,w,p2⟩
 ·exact ⟨rfl,⟨r.marks,rfl,.inl rfl,0,hm⟩,_,rfl⟩
noncomputable def LOk (h:HS):Letter → Prop
 | .call _ c _ key _=>0 ≤ c ∧ c < 6 ∧ ∃ r,kget key h.known = some r
 | .parcel _ key _ _ _=>∃ r,kget key h.known = some r
 | .taken _ key _=>∃ r,kget key h.known = some r
 | .answer _ _ _=>False
theorem run_came (n:Nat) (a:HAt s i x h) (z:HZ h) (km:KOk h.known) (L:Letter) (hL:LOk h L) :
  OkR (run P (n + 3) 23 [.ref (2,i),letV L] s) fun v s'=>v = .none ∧ HAt s' i x (h.came L) ∧ Fr (HF i x) s s':=by
 have ho:=a.o
 have hkn:=a.k
 have hla:=a.la
 have hll:=len_map (f:=letV) z.la
 have hks:=len_known z.k
 have hm0:=H.mhas
 have hm3:=H.mcalled
 refine okr_run H.came rfl ?_
 cases L with
 | answer=>exact hL.elim
 | call hh c num key w =>
  obtain ⟨h0,h6,r,hk⟩:=hL
  have hv:=run_has H (n + 1) a key
  refine st_if (t:=true) rfl ?_
  have hhas:h.has key = decide (r.st = .here):=by rw [HS.has,hk]
  rw [hhas] at hv
  have e:h.came (.call hh c num key w) = if r.st = .here then h.called c num key w r else h:=came_call hk
  rw [e]
  by_cases hs:r.st = .here
  ·rw [decide_eq_true hs] at hv
   rw [if_pos hs]
   refine st_if (t:=true) (by (repeat' first | exact rfl | apply e_meth | exact (meth_of (by assumption)).trans (by assumption) | assumption)) (st_exprQ (e_methQ rfl ((meth_of ho).trans hm3) rfl (run_called H n a z hk (km _ (kget_mem hk)) h0 h6 w)) ?_)
   rintro v s' ⟨rfl,h1,h2⟩
   exact st_next (st_next (st_nil ⟨rfl,h1,h2⟩))
  ·rw [decide_eq_false hs] at hv
   rw [if_neg hs]
   exact st_if (t:=false) (by (repeat' first | exact rfl | apply e_meth | exact (meth_of (by assumption)).trans (by assumption) | assumption)) (st_next (st_next (st_nil ⟨rfl,a,.refl _ _⟩)))
 | parcel hh key tn am ms =>
  obtain ⟨r,hk⟩:=hL
  have hd:=row_of hk
  refine st_if (t:=false) rfl (st_if (t:=true) rfl ?_)
  have e:h.came (.parcel hh key tn am ms) = { h with known:=if r.turn < tn then kput key ⟨.here,tn,am,ms⟩ h.known else h.known,laid:=h.laid ++ [.taken (1 - h.num) key tn] }:=came_parcel hk
  rw [e]
  have fin:∀ (k:Known) (t:MS) (Q:Fl × Loc → MS → Prop),HAt t i x { h with known:=k } → Fr (HF i x) s t → (∀ l s',HAt s' i x { h with known:=k,laid:=h.laid ++ [.taken (1 - h.num) key tn] } → Fr (HF i x) s s' → Q (.next,l) s') →
    OkR (exs P (run P (n + 2)) (n + 2) [.expr (.bm .append (.attr (.loc 0) 6) [.tup [.str [116,97,107,101,110],.bin .sub (.int 1) (.attr (.loc 0) 0),.sub (.loc 1) (.int 2),.sub (.loc 1) (.int 3)]])] [some (.ref (2,i)),some (letV (.parcel hh key tn am ms)),none] t) Q:=by
   intro k t Q a1 f1 hQ
   have ho1:=a1.o
   have hla1:=a1.la
   exact st_expr (v:=.none) (s':=t.put (6,x.la) (.list (h.laid.map letV ++ [letV (.taken (1 - h.num) key tn)]))) (by (repeat' first | exact rfl | apply e_attr | apply e_bin | apply e_tup | apply e_bm | apply e_cons | exact ga_ok (by assumption) rfl | exact bm_list (by assumption) | exact append_at _ _ _ _ (by assumption) (by assumption))) (st_nil (hQ _ _ (a1.laid1 (.taken (1 - h.num) key tn)) (f1.put (.inr (.inr (.inr (.inl rfl)))) _)))
  by_cases hs:r.turn < tn
  ·rw [if_pos hs]
   refine st_if (t:=true) ((show _ = Res.ok (V.bool (decide (r.turn < tn))) s by (repeat' first | exact rfl | apply e_attr | apply e_sub | apply e_cmp | exact ga_ok (by assumption) rfl | exact i_dict _ _ _ _ _ (by assumption) (by first | exact rfl | assumption))).trans (congrArg (fun q=>Res.ok (V.bool q) s) (decide_eq_true hs))) (st_setitem (v:=rowV ⟨.here,tn,am,ms⟩) rfl (by (repeat' first | exact rfl | apply e_attr | exact ga_ok (by assumption) rfl)) rfl (setItem_dict _ _ _ _ _ hkn hks) ?_)
   rw [dput_known]
   exact st_next (fin _ _ _ (a.known _) ((Fr.refl _ _).put (.inr (.inl rfl)) _) fun l s' q1 q2=>⟨rfl,q1,q2⟩)
  ·rw [if_neg hs]
   refine st_if (t:=false) ((show _ = Res.ok (V.bool (decide (r.turn < tn))) s by (repeat' first | exact rfl | apply e_attr | apply e_sub | apply e_cmp | exact ga_ok (by assumption) rfl | exact i_dict _ _ _ _ _ (by assumption) (by first | exact rfl | assumption))).trans (congrArg (fun q=>Res.ok (V.bool q) s) (decide_eq_false hs))) (st_next ?_)
   exact fin _ _ _ a (.refl _ _) fun l s' q1 q2=>⟨rfl,q1,q2⟩
 | taken hh key tn =>
  obtain ⟨r,hk⟩:=hL
  have hd:=row_of hk
  refine st_if (t:=false) rfl (st_if (t:=false) rfl (st_assign (by (repeat' first | exact rfl | apply e_attr | apply e_sub | exact ga_ok (by assumption) rfl | exact i_dict _ _ _ _ _ (by assumption) (by first | exact rfl | assumption))) rfl ?_))
  have e:h.came (.taken hh key tn) = if r.st = .owes ∧ tn = r.turn + 1 then { h with known:=kput key ⟨.gone,r.turn,0,[]⟩ h.known } else h:=came_taken hk
  rw [e]
  by_cases hs:r.st = .owes
  ·by_cases ht:tn = r.turn + 1
   ·rw [if_pos ⟨hs,ht⟩]
    refine st_if (t:=true) (e_andT (congrArg (fun q=>Res.ok (V.bool q) s) ((st_owes r.st).trans (decide_eq_true hs))) (e_and1 (congrArg (fun q=>Res.ok (V.bool q) s) (decide_eq_true ht)))) (st_setitem (v:=rowV ⟨.gone,r.turn,0,[]⟩) rfl (by (repeat' first | exact rfl | apply e_attr | exact ga_ok (by assumption) rfl)) rfl (setItem_dict _ _ _ _ _ hkn hks) ?_)
    rw [dput_known]
    exact st_next (st_next (st_next (st_nil ⟨rfl,a.known _,(Fr.refl _ _).put (.inr (.inl rfl)) _⟩)))
   ·rw [if_neg fun q=>ht q.2]
    exact st_if (t:=false) (e_andT (congrArg (fun q=>Res.ok (V.bool q) s) ((st_owes r.st).trans (decide_eq_true hs))) (e_and1 (congrArg (fun q=>Res.ok (V.bool q) s) (decide_eq_false ht)))) (st_next (st_next (st_next (st_nil ⟨rfl,a,.refl _ _⟩))))
  ·rw [if_neg fun q=>hs q.1]
   exact st_if (t:=false) (e_andF (congrArg (fun q=>Res.ok (V.bool q) s) ((st_owes r.st).trans (decide_eq_false hs)))) (st_next (st_next (st_next (st_nil ⟨rfl,a,.refl _ _⟩))))
theorem run_move {xc:Nat} (hf:P.fns 26 = some (f_House_move xc)) (n:Nat) (a:HAt s i x h) (z:HZ h) (hk:kget key h.known = some r) (hs:r.st = .here) :
  OkR (run P (n + 2) 26 [.ref (2,i),.str key] s) fun v s'=>v = .none ∧ HAt s' i x (h.move key r) ∧ Fr (HF i x) s s':=by
 have ho:=a.o
 have hkn:=a.k
 have hd:=row_of hk
 have hll:=len_map (f:=letV) z.la
 have hks:=len_known z.k
 have hm0:=H.mhas
 have hm4:=H.mparcel
 have hh:=run_has H n a key
 have hhas:h.has key = true:=by rw [HS.has,hk]; exact decide_eq_true hs
 rw [hhas] at hh
 refine okr_run hf rfl ?_
 refine st_if (t:=false) (s':=s) (e_not (t:=true) (by (repeat' first | exact rfl | apply e_meth | exact (meth_of (by assumption)).trans (by assumption) | assumption))) (st_next (st_assign (by (repeat' first | exact rfl | apply e_attr | apply e_sub | exact ga_ok (by assumption) rfl | exact i_dict _ _ _ _ _ (by assumption) (by first | exact rfl | assumption))) rfl (st_setitem (v:=rowV { r with st:=.owes }) rfl (by (repeat' first | exact rfl | apply e_attr | exact ga_ok (by assumption) rfl)) rfl (setItem_dict _ _ _ _ _ hkn hks) ?_)))
 rw [dput_known]
 have a1:=a.known (kput key { r with st:=.owes } h.known)
 have f1:Fr (HF i x) s _:=(Fr.refl (HF i x) s).put (.inr (.inl rfl)) (.dict (knownD (kput key { r with st:=.owes } h.known)))
 generalize s.put (4,x.k) (.dict (knownD (kput key { r with st:=.owes } h.known))) = t1 at a1 f1
 have ho1:=a1.o
 have hla1:=a1.la
 have hp:=run_parcel H n ho1 key r
 exact st_expr (v:=.none) (s':=t1.put (6,x.la) (.list (h.laid.map letV ++ [letV (parcelOf h.num key r)]))) (by (repeat' first | exact rfl | apply e_attr | apply e_meth | apply e_bm | apply e_cons | exact ga_ok (by assumption) rfl | exact (meth_of (by assumption)).trans (by assumption) | exact bm_list (by assumption) | exact append_at _ _ _ _ (by assumption) (by assumption) | assumption)) (st_nil ⟨rfl,a1.laid1 (parcelOf h.num key r),f1.put (.inr (.inr (.inr (.inl rfl)))) _⟩)
noncomputable def HIx.fresh (x:HIx) (s:MS):Prop:=s.cnt 4 ≤ x.k ∧ s.cnt 5 ≤ x.w ∧ s.cnt 6 ≤ x.la ∧ s.cnt 7 ≤ x.fr
theorem run_write (hf:P.fns 27 = some f_House_write) (n:Nat) (a:HAt s i x h) (z:HZ h) :
  OkR (run P (n + 1) 27 [.ref (2,i)] s) fun v s'=>v = .tup [.ref (6,x.la),.ref (7,x.fr)] ∧ HAt s' i ⟨x.k,s.cnt 5,s.cnt 6,s.cnt 7⟩ h.write ∧ Fr (At1 (2,i)) s s':=by
 have ho:=a.o
 have hkn:=a.k
 have hkz:=len_known' z.k
 refine okr_run hf rfl ?_
 have h1:(s.new 5 (.dict (knownD h.known))).heap (2,i) = some (hObj h.num x):=by (repeat' first | assumption | exact put_self _ _ _ | exact new_self _ _ _ | refine (put_ne (kind_ne (by decide))).trans ?_ | refine (new_ne (kind_ne (by decide))).trans ?_)
 refine st_setattr (s':=(s.new 5 (.dict (knownD h.known))).put (2,i) (hObj h.num ⟨x.k,s.cnt 5,x.la,x.fr⟩)) (by (repeat' first | exact rfl | apply e_attr | apply e_dictC | exact ga_ok (by assumption) rfl | assumption)) rfl (sa_ok 5 _ h1 rfl) ?_
 have f1:Fr (At1 (2,i)) s ((s.new 5 (.dict (knownD h.known))).put (2,i) (hObj h.num ⟨x.k,s.cnt 5,x.la,x.fr⟩)):=((Fr.refl _ _).new _ _).put (at1 _) _
 have h2:((s.new 5 (.dict (knownD h.known))).put (2,i) (hObj h.num ⟨x.k,s.cnt 5,x.la,x.fr⟩)).heap (2,i) = some (hObj h.num ⟨x.k,s.cnt 5,x.la,x.fr⟩):=put_self _ _ _
 have w2:((s.new 5 (.dict (knownD h.known))).put (2,i) (hObj h.num ⟨x.k,s.cnt 5,x.la,x.fr⟩)).heap (5,s.cnt 5) = some (.dict (knownD h.known)):=by (repeat' first | assumption | exact put_self _ _ _ | exact new_self _ _ _ | refine (put_ne (kind_ne (by decide))).trans ?_ | refine (new_ne (kind_ne (by decide))).trans ?_)
 have c5:((s.new 5 (.dict (knownD h.known))).put (2,i) (hObj h.num ⟨x.k,s.cnt 5,x.la,x.fr⟩)).cnt 5 = s.cnt 5 + 1:=rfl
 have c6:((s.new 5 (.dict (knownD h.known))).put (2,i) (hObj h.num ⟨x.k,s.cnt 5,x.la,x.fr⟩)).cnt 6 = s.cnt 6:=rfl
 have c7:((s.new 5 (.dict (knownD h.known))).put (2,i) (hObj h.num ⟨x.k,s.cnt 5,x.la,x.fr⟩)).cnt 7 = s.cnt 7:=rfl
 generalize (s.new 5 (.dict (knownD h.known))).put (2,i) (hObj h.num ⟨x.k,s.cnt 5,x.la,x.fr⟩) = t at f1 h2 w2 c5 c6 c7
 refine st_assign (v:=.tup [.ref (6,x.la),.ref (7,x.fr)]) (s':=t) (by (repeat' first | exact rfl | apply e_attr | apply e_tup | apply e_cons | exact ga_ok (by assumption) rfl)) rfl ?_
 have h3:(t.new 6 (.list [])).heap (2,i) = some (hObj h.num ⟨x.k,s.cnt 5,x.la,x.fr⟩):=by (repeat' first | assumption | exact put_self _ _ _ | exact new_self _ _ _ | refine (put_ne (kind_ne (by decide))).trans ?_ | refine (new_ne (kind_ne (by decide))).trans ?_)
 refine st_setattr (v:=.ref (6,t.cnt 6)) (s':=(t.new 6 (.list [])).put (2,i) (hObj h.num ⟨x.k,s.cnt 5,t.cnt 6,x.fr⟩)) rfl rfl (sa_ok 6 _ h3 rfl) ?_
 have h4:(((t.new 6 (.list [])).put (2,i) (hObj h.num ⟨x.k,s.cnt 5,t.cnt 6,x.fr⟩)).new 7 (.list [])).heap (2,i) = some (hObj h.num ⟨x.k,s.cnt 5,t.cnt 6,x.fr⟩):=by (repeat' first | assumption | exact put_self _ _ _ | exact new_self _ _ _ | refine (put_ne (kind_ne (by decide))).trans ?_ | refine (new_ne (kind_ne (by decide))).trans ?_)
 refine st_setattr (v:=.ref (7,t.cnt 7)) (s':=(((t.new 6 (.list [])).put (2,i) (hObj h.num ⟨x.k,s.cnt 5,t.cnt 6,x.fr⟩)).new 7 (.list [])).put (2,i) (hObj h.num ⟨x.k,s.cnt 5,t.cnt 6,t.cnt 7⟩)) rfl rfl (sa_ok 7 _ h4 rfl) ?_
 have f2:=(((f1.new 6 (.list [])).put (at1 _) (hObj h.num ⟨x.k,s.cnt 5,t.cnt 6,x.fr⟩)).new 7 (.list [])).put (at1 _) (hObj h.num ⟨x.k,s.cnt 5,t.cnt 6,t.cnt 7⟩)
 refine st_ret (v:=.tup [.ref (6,x.la),.ref (7,x.fr)]) rfl ⟨rfl,?_,f2⟩
 have hk':=(f2.1 (4,x.k) a.ik (kind_ne (by decide))).trans a.k
 rw [c6,c7] at hk' f2 ⊢
 refine ⟨put_self _ _ _,hk',by (repeat' first | assumption | exact put_self _ _ _ | exact new_self _ _ _ | refine (put_ne (kind_ne (by decide))).trans ?_ | refine (new_ne (kind_ne (by decide))).trans ?_),?_,?_,Nat.lt_of_lt_of_le a.io (f2.2 2),Nat.lt_of_lt_of_le a.ik (f2.2 4),?_,?_,?_⟩
 ·rw [← c6]; (repeat' first | assumption | exact put_self _ _ _ | exact new_self _ _ _ | refine (put_ne (kind_ne (by decide))).trans ?_ | refine (new_ne (kind_ne (by decide))).trans ?_)
 ·rw [← c7]; exact (put_ne (kind_ne (by decide))).trans (new_self _ 7 _)
 ·show s.cnt 5 < t.cnt 5; rw [c5]; exact Nat.lt_succ_self _
 ·show s.cnt 6 < t.cnt 6 + 1; rw [c6]; exact Nat.lt_succ_self _
 ·show s.cnt 7 < t.cnt 7 + 1; rw [c7]; exact Nat.lt_succ_self _
theorem run_sleep (hf:P.fns 28 = some f_House_sleep) (n:Nat) (a:HAt s i x h) (z:HZ h) :
  OkR (run P (n + 1) 28 [.ref (2,i)] s) fun v s'=>v = .none ∧ HAt s' i ⟨s.cnt 4,x.w,s.cnt 6,s.cnt 7⟩ h.sleep ∧ Fr (At1 (2,i)) s s':=by
 have ho:=a.o
 have hwn:=a.w
 have hwz:=len_known' z.w
 refine okr_run hf rfl ?_
 have h1:(s.new 4 (.dict (knownD h.written))).heap (2,i) = some (hObj h.num x):=by (repeat' first | assumption | exact put_self _ _ _ | exact new_self _ _ _ | refine (put_ne (kind_ne (by decide))).trans ?_ | refine (new_ne (kind_ne (by decide))).trans ?_)
 refine st_setattr (s':=(s.new 4 (.dict (knownD h.written))).put (2,i) (hObj h.num ⟨s.cnt 4,x.w,x.la,x.fr⟩)) (by (repeat' first | exact rfl | apply e_attr | apply e_dictC | exact ga_ok (by assumption) rfl | assumption)) rfl (sa_ok 4 _ h1 rfl) ?_
 have f1:Fr (At1 (2,i)) s ((s.new 4 (.dict (knownD h.written))).put (2,i) (hObj h.num ⟨s.cnt 4,x.w,x.la,x.fr⟩)):=((Fr.refl _ _).new _ _).put (at1 _) _
 have h2:((s.new 4 (.dict (knownD h.written))).put (2,i) (hObj h.num ⟨s.cnt 4,x.w,x.la,x.fr⟩)).heap (2,i) = some (hObj h.num ⟨s.cnt 4,x.w,x.la,x.fr⟩):=put_self _ _ _
 have w2:((s.new 4 (.dict (knownD h.written))).put (2,i) (hObj h.num ⟨s.cnt 4,x.w,x.la,x.fr⟩)).heap (4,s.cnt 4) = some (.dict (knownD h.written)):=by (repeat' first | assumption | exact put_self _ _ _ | exact new_self _ _ _ | refine (put_ne (kind_ne (by decide))).trans ?_ | refine (new_ne (kind_ne (by decide))).trans ?_)
 have c4:((s.new 4 (.dict (knownD h.written))).put (2,i) (hObj h.num ⟨s.cnt 4,x.w,x.la,x.fr⟩)).cnt 4 = s.cnt 4 + 1:=rfl
 have c6:((s.new 4 (.dict (knownD h.written))).put (2,i) (hObj h.num ⟨s.cnt 4,x.w,x.la,x.fr⟩)).cnt 6 = s.cnt 6:=rfl
 have c7:((s.new 4 (.dict (knownD h.written))).put (2,i) (hObj h.num ⟨s.cnt 4,x.w,x.la,x.fr⟩)).cnt 7 = s.cnt 7:=rfl
 generalize (s.new 4 (.dict (knownD h.written))).put (2,i) (hObj h.num ⟨s.cnt 4,x.w,x.la,x.fr⟩) = t at f1 h2 w2 c4 c6 c7
 have h3:(t.new 6 (.list [])).heap (2,i) = some (hObj h.num ⟨s.cnt 4,x.w,x.la,x.fr⟩):=by (repeat' first | assumption | exact put_self _ _ _ | exact new_self _ _ _ | refine (put_ne (kind_ne (by decide))).trans ?_ | refine (new_ne (kind_ne (by decide))).trans ?_)
 refine st_setattr (v:=.ref (6,t.cnt 6)) (s':=(t.new 6 (.list [])).put (2,i) (hObj h.num ⟨s.cnt 4,x.w,t.cnt 6,x.fr⟩)) rfl rfl (sa_ok 6 _ h3 rfl) ?_
 have h4:(((t.new 6 (.list [])).put (2,i) (hObj h.num ⟨s.cnt 4,x.w,t.cnt 6,x.fr⟩)).new 7 (.list [])).heap (2,i) = some (hObj h.num ⟨s.cnt 4,x.w,t.cnt 6,x.fr⟩):=by (repeat' first | assumption | exact put_self _ _ _ | exact new_self _ _ _ | refine (put_ne (kind_ne (by decide))).trans ?_ | refine (new_ne (kind_ne (by decide))).trans ?_)
 refine st_setattr (v:=.ref (7,t.cnt 7)) (s':=(((t.new 6 (.list [])).put (2,i) (hObj h.num ⟨s.cnt 4,x.w,t.cnt 6,x.fr⟩)).new 7 (.list [])).put (2,i) (hObj h.num ⟨s.cnt 4,x.w,t.cnt 6,t.cnt 7⟩)) rfl rfl (sa_ok 7 _ h4 rfl) ?_
 have f2:=(((f1.new 6 (.list [])).put (at1 _) (hObj h.num ⟨s.cnt 4,x.w,t.cnt 6,x.fr⟩)).new 7 (.list [])).put (at1 _) (hObj h.num ⟨s.cnt 4,x.w,t.cnt 6,t.cnt 7⟩)
 refine st_nil ⟨rfl,?_,f2⟩
 have hw':=(f2.1 (5,x.w) a.iw (kind_ne (by decide))).trans a.w
 rw [c6,c7] at hw' f2 ⊢
 refine ⟨put_self _ _ _,by (repeat' first | assumption | exact put_self _ _ _ | exact new_self _ _ _ | refine (put_ne (kind_ne (by decide))).trans ?_ | refine (new_ne (kind_ne (by decide))).trans ?_),hw',?_,?_,Nat.lt_of_lt_of_le a.io (f2.2 2),?_,Nat.lt_of_lt_of_le a.iw (f2.2 5),?_,?_⟩
 ·rw [← c6]; (repeat' first | assumption | exact put_self _ _ _ | exact new_self _ _ _ | refine (put_ne (kind_ne (by decide))).trans ?_ | refine (new_ne (kind_ne (by decide))).trans ?_)
 ·rw [← c7]; exact (put_ne (kind_ne (by decide))).trans (new_self _ 7 _)
 ·show s.cnt 4 < t.cnt 4; rw [c4]; exact Nat.lt_succ_self _
 ·show s.cnt 6 < t.cnt 6 + 1; rw [c6]; exact Nat.lt_succ_self _
 ·show s.cnt 7 < t.cnt 7 + 1; rw [c7]; exact Nat.lt_succ_self _
omit H
theorem items_dict {s:MS} {r:Lbl} {d:List (V × V)} (h:s.heap r = some (.dict d)):itemsOf s false (.ref r) = some (d.map (·.1)):=by
 show (match dictAt (.ref r) s with | some p=>some (p.2.map fun q:V × V=>q.1) | none=>(seqOf s (.ref r)).map fun q:Bool × List V=>q.2) = _
 rw [dict_at h]
theorem stays_self (s:MS) (v:V) (b:Bool):stays s s b v = true:=by
 cases b with
 | true=>rfl
 | false=>cases v <;> first | rfl | (show (decide _ && (_ || decide _)) = true; rw [decide_eq_true rfl,decide_eq_true rfl,Bool.or_true]; rfl)
theorem kget_nodup {key:Key} {r:Row}:∀ {k:Known},(k.map (·.1)).Nodup → (key,r) ∈ k → kget key k = some r
 | [],_,h=>by cases h
 | (a,r') :: l,nd,h=>by
  rw [List.map_cons,List.nodup_cons] at nd
  rcases List.mem_cons.1 h with h | h
  ·cases h; exact if_pos rfl
  ·by_cases e:a = key
   ·exact (nd.1 (e ▸ List.mem_map.2 ⟨_,h,rfl⟩)).elim
   ·exact (if_neg e).trans (kget_nodup nd.2 h)
noncomputable def rowIs (k:Known) (st:St) (v:V):Bool:=match v with
 | .str key=>(match kget key k with | some r=>decide (r.st = st) | none=>false)
 | _=>false
theorem filter_rows {k:Known} {st:St} (nd:(k.map (·.1)).Nodup):((knownD k).map (·.1)).filter (rowIs k st) = (k.filter fun p=>decide (p.2.st = st)).map fun p=>V.str p.1:=by
 have e:(knownD k).map (·.1) = k.map fun p=>V.str p.1:=by rw [knownD,List.map_map]; rfl
 rw [e,List.filter_map]
 congr 1
 refine List.filter_congr fun p hp=>?_
 show (match kget p.1 k with | some r=>decide (r.st = st) | none=>false) = _
 rw [kget_nodup nd hp]
theorem mem_known {k:Known} {v:V} (h:v ∈ (knownD k).map (·.1)):∃ key r,v = .str key ∧ kget key k = some r:=by
 obtain ⟨p,hp,rfl⟩:=List.mem_map.1 h
 obtain ⟨q,hq,rfl⟩:=List.mem_map.1 hp
 obtain ⟨r,hr⟩:=kget_of (List.mem_map.2 ⟨q,hq,rfl⟩)
 exact ⟨q.1,r,rfl,hr⟩
include H
theorem run_nudge (hf:P.fns 29 = some f_House_nudge) (n:Nat) (a:HAt s i x h) (z:HZ h) (nd:(h.written.map (·.1)).Nodup) :
  run P (n + 2) 29 [.ref (2,i)] s = .ok (.lst (h.nudge.map letV)) s:=by
 have ho:=a.o
 have hwn:=a.w
 have hm4:=H.mparcel
 refine okr_eq (okr_run hf rfl ?_)
 have hl:(0:Nat) + ((knownD h.written).map (·.1)).length ≤ sizeMax:=by have:=len_known z.w; rw [List.length_map]; show _ ≤ 16777216; lia
 refine st_ret (e_comp (src:=.ref (5,x.w)) (by (repeat' first | exact rfl | apply e_attr | exact ga_ok (by assumption) rfl)) (items_dict hwn) (comp_fm s s false (.ref (5,x.w)) 1 _ _ _ (rowIs h.written .owes) (fun v=>match v with | .str key=>(match kget key h.written with | some r=>letV (parcelOf h.num key r) | none=>.none) | _=>.none) (stays_self _ _ _) _ [] ?_ ?_ hl)) ⟨?_,rfl⟩
 ·intro v hv
  obtain ⟨key,r,rfl,hk⟩:=mem_known hv
  have hd:dfind (.str key) (knownD h.written) = some (.tup [.str (stS r.st),.int r.turn,.int r.amt,marksV r.marks]):=by rw [dfind_known,hk]; rfl
  show ev P _ _ [some (.ref (2,i)),some (.str key)] s = .ok (.bool (match kget key h.written with | some r=>decide (r.st = .owes) | none=>false)) s
  rw [hk]
  show _ = Res.ok (V.bool (decide (r.st = .owes))) s
  rw [← st_owes]
  (repeat' first | exact rfl | apply e_attr | apply e_sub | apply e_cmp | exact ga_ok (by assumption) rfl | exact i_dict _ _ _ _ _ (by assumption) (by first | exact rfl | assumption))
 ·intro v hv _
  obtain ⟨key,r,rfl,hk⟩:=mem_known hv
  have hd:dfind (.str key) (knownD h.written) = some (.tup [.str (stS r.st),.int r.turn,.int r.amt,marksV r.marks]):=by rw [dfind_known,hk]; rfl
  have hp:=run_parcel H n ho key r
  show ev P _ _ [some (.ref (2,i)),some (.str key)] s = .ok (match kget key h.written with | some r=>letV (parcelOf h.num key r) | none=>.none) s
  rw [hk]
  (repeat' first | exact rfl | apply e_attr | apply e_sub | apply e_meth | apply e_cons | exact ga_ok (by assumption) rfl | exact i_dict _ _ _ _ _ (by assumption) (by first | exact rfl | assumption) | exact (meth_of (by assumption)).trans (by assumption) | assumption)
 ·show V.lst ([] ++ _) = _
  rw [List.nil_append,filter_rows nd,HS.nudge,List.map_map,List.map_map]
  congr 1
  refine List.map_congr_left fun p hp=>?_
  show (match kget p.1 h.written with | some r=>letV (parcelOf h.num p.1 r) | none=>V.none) = letV (parcelOf h.num p.1 p.2)
  rw [kget_nodup nd (List.mem_filter.1 hp).1]
omit H
theorem kput_kput (key:Key) (a b:Row):∀ k:Known,kput key b (kput key a k) = kput key b k
 | []=>if_pos rfl
 | (c,r) :: l=>by
  by_cases h:c = key
  ·rw [kput,if_pos h,kput,if_pos h,kput,if_pos h]
  ·rw [kput,if_neg h,kput,if_neg h,kput_kput key a b l,kput,if_neg h]
noncomputable def row0 (num:Int):Row:=if num = 0 then ⟨.here,0,0,[]⟩ else ⟨.gone,-1,0,[]⟩
noncomputable def KeysV (kv:V) (ks:List Key) (s:MS):Prop:=kv = .lst (ks.map .str) ∨ ∃ r:Lbl,kv = .ref r ∧ r.1 ≠ 2 ∧ r.1 ≠ 4 ∧ r.2 < s.cnt r.1 ∧ s.heap r = some (.list (ks.map .str))
theorem dict_no {s:MS} {r:Lbl} {l:List V} (h:s.heap r = some (.list l)):dictAt (.ref r) s = none:=by
 show (match s.heap r with | some (.dict l)=>some (r,l) | _=>none) = _
 rw [h]
theorem items_list {s:MS} {r:Lbl} {l:List V} (h:s.heap r = some (.list l)):itemsOf s false (.ref r) = some l:=by
 show (match dictAt (.ref r) s with | some p=>some (p.2.map fun q:V × V=>q.1) | none=>(seqOf s (.ref r)).map fun q:Bool × List V=>q.2) = _
 rw [dict_no h,seq_ref h]; rfl
theorem KeysV.items {kv:V} {ks:List Key} {s:MS} (h:KeysV kv ks s):itemsOf s false kv = some (ks.map .str):=by
 rcases h with rfl | ⟨r,rfl,-,-,-,h⟩
 ·rfl
 ·exact items_list h
theorem KeysV.stays {F:Lbl → Prop} {kv:V} {ks:List Key} {s t:MS} (h:KeysV kv ks s) (f:Fr F s t) (hF:∀ l,F l → l.1 = 2 ∨ l.1 = 4):stays s t false kv = true:=by
 rcases h with rfl | ⟨r,rfl,h2,h4,hc,h⟩
 ·rfl
 ·show (decide _ && ((dictAt (.ref r) s).isNone || _)) = true
  rw [decide_eq_true (f.1 r hc fun q=>(hF r q).elim h2 h4).symm,dict_no h]; rfl
theorem KeysV.step {F:Lbl → Prop} {kv:V} {ks:List Key} {s t:MS} (h:KeysV kv ks s) (f:Fr F s t) (hF:∀ l,F l → l.1 = 2 ∨ l.1 = 4):KeysV kv ks t:=by
 rcases h with rfl | ⟨r,rfl,h2,h4,hc,h⟩
 ·exact .inl rfl
 ·exact .inr ⟨r,rfl,h2,h4,Nat.lt_of_lt_of_le hc (f.2 _),(f.1 r hc fun q=>(hF r q).elim h2 h4).trans h⟩
include H
theorem run_init (n:Nat) (num:Int) (kv:V) (ks:List Key) (ho:s.heap (2,i) = some (.inst 1 [])) (hi:i < s.cnt 2) (hkv:KeysV kv ks s) (hn:ks.length < 1000) :
  OkR (run P (n + 1) 20 [.ref (2,i),.int num,kv] s) fun v s'=>v = .none ∧ ∃ x:HIx,x.fresh s ∧ HAt s' i x (HS.new num ks) ∧ Fr (At1 (2,i)) s s' ∧ s'.cnt 2 = s.cnt 2 ∧ ∀ k,7 < k ∨ k = 3 → s'.cnt k = s.cnt k:=by
 refine okr_run H.init rfl ?_
 refine st_setattr (s':=s.put (2,i) (.inst 1 [(0,.int num)])) rfl rfl (sa_ok 0 _ ho rfl) ?_
 have h1:((s.put (2,i) (.inst 1 [(0,.int num)])).new 4 (.dict [])).heap (2,i) = some (.inst 1 [(0,.int num)]):=by (repeat' first | assumption | exact put_self _ _ _ | exact new_self _ _ _ | refine (put_ne (kind_ne (by decide))).trans ?_ | refine (new_ne (kind_ne (by decide))).trans ?_)
 refine st_setattr (v:=.ref (4,s.cnt 4)) (s':=((s.put (2,i) (.inst 1 [(0,.int num)])).new 4 (.dict [])).put (2,i) (.inst 1 [(0,.int num),(4,.ref (4,s.cnt 4))])) rfl rfl (sa_ok 4 _ h1 rfl) ?_
 have f1:Fr (At1 (2,i)) s (((s.put (2,i) (.inst 1 [(0,.int num)])).new 4 (.dict [])).put (2,i) (.inst 1 [(0,.int num),(4,.ref (4,s.cnt 4))])):=(((Fr.refl _ _).put (at1 _) _).new _ _).put (at1 _) _
 have h2:(((s.put (2,i) (.inst 1 [(0,.int num)])).new 4 (.dict [])).put (2,i) (.inst 1 [(0,.int num),(4,.ref (4,s.cnt 4))])).heap (2,i) = some (.inst 1 [(0,.int num),(4,.ref (4,s.cnt 4))]):=put_self _ _ _
 have h3:(((s.put (2,i) (.inst 1 [(0,.int num)])).new 4 (.dict [])).put (2,i) (.inst 1 [(0,.int num),(4,.ref (4,s.cnt 4))])).heap (4,s.cnt 4) = some (.dict (knownD [])):=(put_ne (kind_ne (by decide))).trans (new_self _ 4 _)
 have hc:∀ k,k ≠ 4 → (((s.put (2,i) (.inst 1 [(0,.int num)])).new 4 (.dict [])).put (2,i) (.inst 1 [(0,.int num),(4,.ref (4,s.cnt 4))])).cnt k = s.cnt k:=fun k hk=>if_neg hk
 have h4c:(((s.put (2,i) (.inst 1 [(0,.int num)])).new 4 (.dict [])).put (2,i) (.inst 1 [(0,.int num),(4,.ref (4,s.cnt 4))])).cnt 4 = s.cnt 4 + 1:=rfl
 generalize ((s.put (2,i) (.inst 1 [(0,.int num)])).new 4 (.dict [])).put (2,i) (.inst 1 [(0,.int num),(4,.ref (4,s.cnt 4))]) = t at f1 h2 h3 hc h4c
 have k4:∀ l,At1 (2,i) l → l.1 = 2 ∨ l.1 = 4:=fun l e=>.inl (congrArg Prod.fst e)
 have hkt:=hkv.step f1 k4
 refine st_for (v:=kv) (s':=t) (xs:=ks.map .str) rfl hkt.items rfl (okr_for (fun rem l u=>(∃ dk rk,ks = dk ++ rk ∧ rem = rk.map V.str ∧ u.heap (4,s.cnt 4) = some (.dict (knownD (dk.foldl (fun k key=>kput key (row0 num) k) []))) ∧ (dk.foldl (fun k key=>kput key (row0 num) k) []).length ≤ dk.length) ∧ u.heap (2,i) = some (.inst 1 [(0,.int num),(4,.ref (4,s.cnt 4))]) ∧ Fr (At1 (2,i)) s u ∧ Fr (At1 (4,s.cnt 4)) t u ∧ u.cnt = t.cnt ∧ ∃ y,l = [some (.ref (2,i)),some (.int num),some kv,y]) ?_ ?_ _ _ _ ?_)
 ·rintro v rem l u ⟨⟨dk,rk,e1,e2,e3,e4⟩,hu,fu,ft,hcu,y,rfl⟩
  cases rk with
  | nil=>cases e2
  | cons key rk =>
   cases e2
   refine ⟨hkt.stays ft (fun l e=>.inr (congrArg Prod.fst e)),?_⟩
   have hlen:(knownD (dk.foldl (fun k key=>kput key (row0 num) k) [])).length < 16777216:=by
    rw [knownD,List.length_map]; rw [e1,List.length_append] at hn; lia
   have hkl:∀ (a:Row) (k:Known),(kput key a k).length ≤ k.length + 1:=by
    intro a k
    induction k with
    | nil=>exact Nat.le_refl _
    | cons p l ih =>
     rw [kput]
     split
     ·exact Nat.le_succ _
     ·exact Nat.succ_le_succ ih
   show OkR (exs P _ _ _ [some (.ref (2,i)),some (.int num),some kv,some (.str key)] u) _
   refine st_setitem (v:=rowV ⟨.here,0,0,[]⟩) rfl (by (repeat' first | exact rfl | apply e_attr | exact ga_ok (by assumption) rfl)) rfl (setItem_dict _ _ _ _ _ e3 hlen) ?_
   rw [dput_known]
   generalize hk0:dk.foldl (fun k key=>kput key (row0 num) k) [] = k0 at e3 e4 hlen
   have nx:∀ (u':MS),u'.heap (4,s.cnt 4) = some (.dict (knownD (kput key (row0 num) k0))) → u'.heap (2,i) = some (.inst 1 [(0,.int num),(4,.ref (4,s.cnt 4))]) → Fr (At1 (2,i)) s u' → Fr (At1 (4,s.cnt 4)) t u' → u'.cnt = t.cnt → _:=fun u' q1 q2 q3 q4 q5 =>
    (⟨⟨dk ++ [key],rk,by rw [e1,List.append_assoc]; rfl,rfl,by rw [List.foldl_append,hk0]; exact q1,by rw [List.foldl_append,hk0,List.length_append]; exact Nat.le_trans (hkl _ _) (Nat.succ_le_succ e4)⟩,q2,q3,q4,q5,_,rfl⟩:(∃ dk rk',ks = dk ++ rk' ∧ rk.map V.str = rk'.map V.str ∧ u'.heap (4,s.cnt 4) = some (.dict (knownD (dk.foldl (fun k key=>kput key (row0 num) k) []))) ∧ (dk.foldl (fun k key=>kput key (row0 num) k) []).length ≤ dk.length) ∧ u'.heap (2,i) = some (.inst 1 [(0,.int num),(4,.ref (4,s.cnt 4))]) ∧ Fr (At1 (2,i)) s u' ∧ Fr (At1 (4,s.cnt 4)) t u' ∧ u'.cnt = t.cnt ∧ ∃ y,[some (V.ref (2,i)),some (.int num),some kv,some (.str key)] = [some (V.ref (2,i)),some (.int num),some kv,y])
   have g1:∀ (u':MS) (o:MObj),Fr (At1 (2,i)) s u' → Fr (At1 (2,i)) s (u'.put (4,s.cnt 4) o):=fun u' o f=>⟨fun l hl hn=>(put_ne fun (e:l = (4,s.cnt 4))=>by rw [e] at hl; exact Nat.lt_irrefl _ hl).trans (f.1 l hl hn),f.2⟩
   by_cases hz:num = 0
   ·refine st_if (t:=false) (congrArg (fun q=>Res.ok (V.bool (!q)) _) (decide_eq_true hz)) (st_next (st_nil (nx _ ?_ ?_ ?_ ?_ ?_)))
    ·rw [row0,if_pos hz]; exact put_self _ _ _
    ·(repeat' first | assumption | exact put_self _ _ _ | exact new_self _ _ _ | refine (put_ne (kind_ne (by decide))).trans ?_ | refine (new_ne (kind_ne (by decide))).trans ?_)
    ·exact g1 _ _ fu
    ·exact ft.put (at1 _) _
    ·exact hcu
   ·have e5:(u.put (4,s.cnt 4) (.dict (knownD (kput key ⟨.here,0,0,[]⟩ k0)))).heap (4,s.cnt 4) = some (.dict (knownD (kput key ⟨.here,0,0,[]⟩ k0))):=put_self _ _ _
    have e6:(u.put (4,s.cnt 4) (.dict (knownD (kput key ⟨.here,0,0,[]⟩ k0)))).heap (2,i) = some (.inst 1 [(0,.int num),(4,.ref (4,s.cnt 4))]):=by (repeat' first | assumption | exact put_self _ _ _ | exact new_self _ _ _ | refine (put_ne (kind_ne (by decide))).trans ?_ | refine (new_ne (kind_ne (by decide))).trans ?_)
    have hl2:(knownD (kput key ⟨.here,0,0,[]⟩ k0)).length < 16777216:=by
     have:=hkl ⟨.here,0,0,[]⟩ k0
     rw [knownD,List.length_map] at hlen ⊢
     rw [e1,List.length_append,List.length_cons] at hn; lia
    refine st_if (t:=true) (congrArg (fun q=>Res.ok (V.bool (!q)) _) (decide_eq_false hz)) (st_setitem (v:=rowV ⟨.gone,-1,0,[]⟩) rfl (by (repeat' first | exact rfl | apply e_attr | exact ga_ok (by assumption) rfl)) rfl (setItem_dict _ _ _ _ _ e5 hl2) ?_)
    rw [dput_known,kput_kput]
    refine st_next (st_nil (nx _ ?_ ?_ ?_ ?_ ?_))
    ·rw [row0,if_neg hz]; exact put_self _ _ _
    ·(repeat' first | assumption | exact put_self _ _ _ | exact new_self _ _ _ | refine (put_ne (kind_ne (by decide))).trans ?_ | refine (new_ne (kind_ne (by decide))).trans ?_)
    ·exact g1 _ _ (g1 _ _ fu)
    ·exact (ft.put (at1 _) _).put (at1 _) _
    ·exact hcu
 ·rintro l u ⟨⟨dk,rk,e1,e2,e3,e4⟩,hu,fu,ft,hcu,y,rfl⟩
  refine ⟨hkt.stays ft (fun l e=>.inr (congrArg Prod.fst e)),?_⟩
  rw [seqQ_next]
  have:dk = ks:=by
   cases rk with
   | nil=>rw [e1,List.append_nil]
   | cons=>cases e2
  subst this
  have hcs:∀ k,k ≠ 4 → u.cnt k = s.cnt k:=fun k hk=>(congrFun hcu k).trans (hc k hk)
  have h4u:u.cnt 4 = s.cnt 4 + 1:=(congrFun hcu 4).trans h4c
  have hK:HS.new num dk = ⟨num,dk.foldl (fun k key=>kput key (row0 num) k) [],dk.foldl (fun k key=>kput key (row0 num) k) [],[],[]⟩:=rfl
  rw [hK]
  have hkz:=len_known' (Nat.lt_of_le_of_lt e4 hn)
  generalize dk.foldl (fun k key=>kput key (row0 num) k) [] = k0 at e3 hkz
  have c5:=hcs 5 (by decide)
  have c6:=hcs 6 (by decide)
  have c7:=hcs 7 (by decide)
  have q1:(u.new 5 (.dict (knownD k0))).heap (2,i) = some (.inst 1 [(0,.int num),(4,.ref (4,s.cnt 4))]):=by (repeat' first | assumption | exact put_self _ _ _ | exact new_self _ _ _ | refine (put_ne (kind_ne (by decide))).trans ?_ | refine (new_ne (kind_ne (by decide))).trans ?_)
  refine st_setattr (v:=.ref (5,u.cnt 5)) (s':=(u.new 5 (.dict (knownD k0))).put (2,i) (.inst 1 [(0,.int num),(4,.ref (4,s.cnt 4)),(5,.ref (5,u.cnt 5))])) (by (repeat' first | exact rfl | apply e_attr | apply e_dictC | exact ga_ok (by assumption) rfl | assumption)) rfl (sa_ok 5 _ q1 rfl) ?_
  have q2:(((u.new 5 (.dict (knownD k0))).put (2,i) (.inst 1 [(0,.int num),(4,.ref (4,s.cnt 4)),(5,.ref (5,u.cnt 5))])).new 6 (.list [])).heap (2,i) = some (.inst 1 [(0,.int num),(4,.ref (4,s.cnt 4)),(5,.ref (5,u.cnt 5))]):=by (repeat' first | assumption | exact put_self _ _ _ | exact new_self _ _ _ | refine (put_ne (kind_ne (by decide))).trans ?_ | refine (new_ne (kind_ne (by decide))).trans ?_)
  refine st_setattr (v:=.ref (6,u.cnt 6)) (s':=(((u.new 5 (.dict (knownD k0))).put (2,i) (.inst 1 [(0,.int num),(4,.ref (4,s.cnt 4)),(5,.ref (5,u.cnt 5))])).new 6 (.list [])).put (2,i) (.inst 1 [(0,.int num),(4,.ref (4,s.cnt 4)),(5,.ref (5,u.cnt 5)),(6,.ref (6,u.cnt 6))])) rfl rfl (sa_ok 6 _ q2 rfl) ?_
  have q3:(((((u.new 5 (.dict (knownD k0))).put (2,i) (.inst 1 [(0,.int num),(4,.ref (4,s.cnt 4)),(5,.ref (5,u.cnt 5))])).new 6 (.list [])).put (2,i) (.inst 1 [(0,.int num),(4,.ref (4,s.cnt 4)),(5,.ref (5,u.cnt 5)),(6,.ref (6,u.cnt 6))])).new 7 (.list [])).heap (2,i) = some (.inst 1 [(0,.int num),(4,.ref (4,s.cnt 4)),(5,.ref (5,u.cnt 5)),(6,.ref (6,u.cnt 6))]):=by (repeat' first | assumption | exact put_self _ _ _ | exact new_self _ _ _ | refine (put_ne (kind_ne (by decide))).trans ?_ | refine (new_ne (kind_ne (by decide))).trans ?_)
  refine st_setattr (v:=.ref (7,u.cnt 7)) (s':=(((((u.new 5 (.dict (knownD k0))).put (2,i) (.inst 1 [(0,.int num),(4,.ref (4,s.cnt 4)),(5,.ref (5,u.cnt 5))])).new 6 (.list [])).put (2,i) (.inst 1 [(0,.int num),(4,.ref (4,s.cnt 4)),(5,.ref (5,u.cnt 5)),(6,.ref (6,u.cnt 6))])).new 7 (.list [])).put (2,i) (hObj num ⟨s.cnt 4,u.cnt 5,u.cnt 6,u.cnt 7⟩)) rfl rfl (sa_ok 7 _ q3 rfl) (st_nil ⟨rfl,⟨s.cnt 4,u.cnt 5,u.cnt 6,u.cnt 7⟩,⟨Nat.le_refl _,Nat.le_of_eq c5.symm,Nat.le_of_eq c6.symm,Nat.le_of_eq c7.symm⟩,?_,?_,hcs 2 (by decide),fun k hk=>hk.elim (fun hk=>(if_neg (Nat.ne_of_gt hk)).trans ((if_neg (Nat.ne_of_gt (Nat.lt_of_succ_lt hk))).trans ((if_neg (Nat.ne_of_gt (Nat.lt_of_succ_lt (Nat.lt_of_succ_lt hk)))).trans (hcs k (Nat.ne_of_gt (Nat.lt_of_succ_lt (Nat.lt_of_succ_lt (Nat.lt_of_succ_lt hk)))))))) fun e=>e ▸ hcs 3 (by decide)⟩)
  ·refine ⟨put_self _ _ _,by (repeat' first | assumption | exact put_self _ _ _ | exact new_self _ _ _ | refine (put_ne (kind_ne (by decide))).trans ?_ | refine (new_ne (kind_ne (by decide))).trans ?_),by (repeat' first | assumption | exact put_self _ _ _ | exact new_self _ _ _ | refine (put_ne (kind_ne (by decide))).trans ?_ | refine (new_ne (kind_ne (by decide))).trans ?_),?_,?_,?_,?_,Nat.lt_succ_self _,Nat.lt_succ_self _,Nat.lt_succ_self _⟩
   ·exact (put_ne (kind_ne (by decide))).trans ((new_ne (kind_ne (by decide))).trans ((put_ne (kind_ne (by decide))).trans (new_self _ 6 _)))
   ·exact (put_ne (kind_ne (by decide))).trans (new_self _ 7 _)
   ·show i < u.cnt 2; rw [hcs 2 (by decide)]; exact hi
   ·show s.cnt 4 < u.cnt 4; rw [h4u]; exact Nat.lt_succ_self _
  ·exact (((((fu.new _ _).put (at1 _) _).new _ _).put (at1 _) _).new _ _).put (at1 _) _
 ·exact ⟨⟨[],ks,rfl,rfl,h3,Nat.le_refl _⟩,h2,f1,.refl _ _,rfl,_,rfl⟩
theorem make_house (hin:P.inits 1 = some (2,20)) (n:Nat) (num:Int) (kv:V) (ks:List Key) (hkv:KeysV kv ks s) (hn:ks.length < 1000) :
  OkR (makeInst P (run P (n + 1)) 1 [.int num,kv] s) fun v s'=>v = .ref (2,s.cnt 2) ∧ ∃ x:HIx,x.fresh s ∧ HAt s' (s.cnt 2) x (HS.new num ks) ∧ Fr (fun _=>False) s s' ∧ s'.cnt 2 = s.cnt 2 + 1 ∧ ∀ k,7 < k ∨ k = 3 → s'.cnt k = s.cnt k:=by
 have f0:Fr (fun _=>False) s (s.new 2 (.inst 1 [])):=(Fr.refl _ _).new _ _
 have h:=run_init H n num kv ks (i:=s.cnt 2) (s:=s.new 2 (.inst 1 [])) (new_self _ _ _) (by rw [cnt_self]; exact Nat.lt_succ_self _) (hkv.step f0 fun _ q=>q.elim) hn
 obtain ⟨v,s',h1,rfl,x,hx,h2,h3,h4,h5⟩:=okr_elim h
 rw [makeInst,hin]
 show OkR (Res.bind (run P (n + 1) 20 [.ref (2,s.cnt 2),.int num,kv] (s.new 2 (.inst 1 []))) _) _
 rw [h1]
 refine ⟨rfl,x,⟨Nat.le_trans (f0.2 4) hx.1,Nat.le_trans (f0.2 5) hx.2.1,Nat.le_trans (f0.2 6) hx.2.2.1,Nat.le_trans (f0.2 7) hx.2.2.2⟩,h2,⟨fun l hl _=>(h3.1 l (Nat.lt_of_lt_of_le hl (f0.2 l.1)) fun (e:l = (2,s.cnt 2))=>by rw [e] at hl; exact Nat.lt_irrefl _ hl).trans (f0.1 l hl fun q=>q),fun k=>Nat.le_trans (f0.2 k) (h3.2 k)⟩,h4.trans (cnt_self _ _ _),fun k hk=>(h5 k hk).trans (if_neg fun e=>absurd (e ▸ hk) (by decide))⟩
end
end Mine
end
section
namespace Mine
noncomputable def fl_done:Fn:=⟨2,["_law_amount","_law_wish_here"],[.ite (.cmp (.sub (.loc 1) (.int 0)) .eq (.str [103,101,116])) [.ret (some (.tup [.loc 0,.loc 0]))] [],.ite (.cmp (.sub (.loc 1) (.int 0)) .eq (.str [115,101,116])) [.ret (some (.tup [.sub (.loc 1) (.int 1),.loc 0]))] [],.ret (some (.tup [.bin .add (.loc 0) (.sub (.loc 1) (.int 1)),.bin .add (.loc 0) (.sub (.loc 1) (.int 1))]))]⟩
noncomputable def fl_marked:Fn:=⟨4,["_law_marks","_law_caller","_law_number","_law_told",""],[.ret (some (.prim .tuple1 [.prim .sorted [.bin .add (.comp none 4 false (.loc 0) (some (.cmp (.sub (.loc 4) (.int 0)) .ne (.loc 1))) (.loc 4)) (.lst [.tup [.loc 1,.loc 2,.loc 3]])]]))]⟩
noncomputable def fl_last:Fn:=⟨2,["_law_marks","_law_caller","_law_one","_law_number","_law_told"],[.for_ (.inr [.loc 2,.loc 3,.loc 4]) false (.loc 0) [.ite (.cmp (.loc 2) .eq (.loc 1)) [.ret (some (.tup [.loc 3,.loc 4]))] []],.ret (some (.tup [.int 0,.int 0]))]⟩
noncomputable def fl_new:Fn:=⟨2,["_law_number","_law_keys_here","_law_first","_law_known","_law_key"],[.assign 2 (.tup [.int 0,.str [104,101,114,101],.int 0,.tup []]),.ite (.cmp (.loc 0) .eq (.int 1)) [.assign 2 (.tup [.neg (.int 1),.str [103,111,110,101],.int 0,.tup []])] [],.assign 3 (.dictM 43 [] []),.for_ (.inl (.loc 4)) false (.loc 1) [.setitem (.loc 3) (.loc 4) (.loc 2)],.ret (some (.dictM 51 [[110,117,109,98,101,114],[107,110,111,119,110],[119,114,105,116,116,101,110],[108,97,105,100],[102,114,101,115,104]] [.loc 0,.loc 3,.dictC 44 (.loc 3),.lstM 45 [],.lstM 46 []]))]⟩
noncomputable def fl_parcel:Fn:=⟨3,["_law_own","_law_key","_law_row"],[.ret (some (.tup [.str [112,97,114,99,101,108],.bin .sub (.int 1) (.sub (.loc 0) (.str [110,117,109,98,101,114])),.loc 1,.bin .add (.sub (.loc 2) (.int 0)) (.int 1),.sub (.loc 2) (.int 2),.sub (.loc 2) (.int 3)]))]⟩
noncomputable def fl_called:Fn:=⟨5,["_law_own","_law_caller","_law_number","_law_key","_law_wish_here","_law_turn","_law_state","_law_amount","_law_marks","_law_last_here","_law_told"],[.unpack [.loc 5,.loc 6,.loc 7,.loc 8] (.sub (.sub (.loc 0) (.str [107,110,111,119,110])) (.loc 3)),.unpack [.loc 9,.loc 10] (.call 106 [.loc 8,.loc 1]),.ite (.or [.cmp (.loc 6) .ne (.str [104,101,114,101]),.cmp (.loc 9) .gt (.loc 2)]) [.ret none] [],.ite (.cmp (.loc 9) .lt (.loc 2)) [.unpack [.loc 7,.loc 10] (.call 104 [.loc 7,.loc 4]),.setitem (.sub (.loc 0) (.str [107,110,111,119,110])) (.loc 3) (.tup [.loc 5,.str [104,101,114,101],.loc 7,.call 105 [.loc 8,.loc 1,.loc 2,.loc 10]]),.expr (.bm .append (.sub (.loc 0) (.str [102,114,101,115,104])) [.tup [.loc 1,.loc 2,.loc 3,.loc 4,.loc 10]])] [],.expr (.bm .append (.sub (.loc 0) (.str [108,97,105,100])) [.tup [.str [97,110,115,119,101,114],.loc 1,.loc 2,.loc 10]])]⟩
noncomputable def fl_moved:Fn:=⟨2,["_law_own","_law_key","_law_turn","_law_state","_law_amount","_law_marks"],[.unpack [.loc 2,.loc 3,.loc 4,.loc 5] (.sub (.sub (.loc 0) (.str [107,110,111,119,110])) (.loc 1)),.setitem (.sub (.loc 0) (.str [107,110,111,119,110])) (.loc 1) (.tup [.loc 2,.str [111,119,101,100],.loc 4,.loc 5]),.expr (.bm .append (.sub (.loc 0) (.str [108,97,105,100])) [.call 108 [.loc 0,.loc 1,.sub (.sub (.loc 0) (.str [107,110,111,119,110])) (.loc 1)]])]⟩
noncomputable def fl_wrote:Fn:=⟨1,["_law_own","_law_pair"],[.setitem (.loc 0) (.str [119,114,105,116,116,101,110]) (.dictC 44 (.sub (.loc 0) (.str [107,110,111,119,110]))),.assign 1 (.tup [.sub (.loc 0) (.str [108,97,105,100]),.sub (.loc 0) (.str [102,114,101,115,104])]),.setitem (.loc 0) (.str [108,97,105,100]) (.lstM 45 []),.setitem (.loc 0) (.str [102,114,101,115,104]) (.lstM 46 []),.ret (some (.loc 1))]⟩
noncomputable def fl_slept:Fn:=⟨1,["_law_own"],[.setitem (.loc 0) (.str [107,110,111,119,110]) (.dictC 43 (.sub (.loc 0) (.str [119,114,105,116,116,101,110]))),.setitem (.loc 0) (.str [108,97,105,100]) (.lstM 45 []),.setitem (.loc 0) (.str [102,114,101,115,104]) (.lstM 46 [])]⟩
noncomputable def fl_nudged:Fn:=⟨2,["_law_own","_law_keys_here",""],[.ret (some (.comp none 2 false (.loc 1) (some (.cmp (.sub (.sub (.sub (.loc 0) (.str [119,114,105,116,116,101,110])) (.loc 2)) (.int 1)) .eq (.str [111,119,101,100]))) (.call 108 [.loc 0,.loc 2,.sub (.sub (.loc 0) (.str [119,114,105,116,116,101,110])) (.loc 2)])))]⟩
set_option genCtorIdx false in
structure OwnP (P:Prog):Prop where
 done:P.fns 104 = some fl_done
 marked:P.fns 105 = some fl_marked
 last:P.fns 106 = some fl_last
 new:P.fns 107 = some fl_new
 parcel:P.fns 108 = some fl_parcel
 called:P.fns 109 = some fl_called
 moved:P.fns 110 = some fl_moved
 wrote:P.fns 111 = some fl_wrote
 slept:P.fns 112 = some fl_slept
 nudged:P.fns 113 = some fl_nudged
noncomputable def stO:St → List Nat
 | .here=>[104,101,114,101]
 | .owes=>[111,119,101,100]
 | .gone=>[103,111,110,101]
noncomputable def rowO (r:Row):V:=.tup [.int r.turn,.str (stO r.st),.int r.amt,marksV r.marks]
noncomputable def ownD (k:Known):List (V × V):=k.map fun p=>(.str p.1,rowO p.2)
noncomputable def oObj (num:Int) (x:HIx):MObj:=.dict [(.str [110,117,109,98,101,114],.int num),(.str [107,110,111,119,110],.ref (43,x.k)),(.str [119,114,105,116,116,101,110],.ref (44,x.w)),(.str [108,97,105,100],.ref (45,x.la)),(.str [102,114,101,115,104],.ref (46,x.fr))]
set_option genCtorIdx false in
structure OAt (s:MS) (i:Nat) (x:HIx) (h:HS):Prop where
 o:s.heap (51,i) = some (oObj h.num x)
 k:s.heap (43,x.k) = some (.dict (ownD h.known))
 w:s.heap (44,x.w) = some (.dict (ownD h.written))
 la:s.heap (45,x.la) = some (.list (h.laid.map letV))
 fr:s.heap (46,x.fr) = some (.list (h.fresh.map lrowV))
 io:i < s.cnt 51
 ik:x.k < s.cnt 43
 iw:x.w < s.cnt 44
 il:x.la < s.cnt 45
 ir:x.fr < s.cnt 46
noncomputable def OF (i:Nat) (x:HIx) (l:Lbl):Prop:=l = (51,i) ∨ l = (43,x.k) ∨ l = (44,x.w) ∨ l = (45,x.la) ∨ l = (46,x.fr)
theorem OAt.step {F:Lbl → Prop} {s s':MS} {i:Nat} {x:HIx} {h:HS} (a:OAt s i x h) (f:Fr F s s') (n:∀ l,OF i x l → ¬ F l):OAt s' i x h where
 o:=(f.1 _ a.io (n _ (.inl rfl))).trans a.o
 k:=(f.1 _ a.ik (n _ (.inr (.inl rfl)))).trans a.k
 w:=(f.1 _ a.iw (n _ (.inr (.inr (.inl rfl))))).trans a.w
 la:=(f.1 _ a.il (n _ (.inr (.inr (.inr (.inl rfl)))))).trans a.la
 fr:=(f.1 _ a.ir (n _ (.inr (.inr (.inr (.inr rfl)))))).trans a.fr
 io:=Nat.lt_of_lt_of_le a.io (f.2 51)
 ik:=Nat.lt_of_lt_of_le a.ik (f.2 43)
 iw:=Nat.lt_of_lt_of_le a.iw (f.2 44)
 il:=Nat.lt_of_lt_of_le a.il (f.2 45)
 ir:=Nat.lt_of_lt_of_le a.ir (f.2 46)
theorem OAt.laid1 {s:MS} {i:Nat} {x:HIx} {h:HS} (a:OAt s i x h) (L:Letter):OAt (s.put (45,x.la) (.list (h.laid.map letV ++ [letV L]))) i x { h with laid:=h.laid ++ [L] }:=by
 refine ⟨(put_ne (kind_ne (by decide))).trans a.o,(put_ne (kind_ne (by decide))).trans a.k,(put_ne (kind_ne (by decide))).trans a.w,?_,(put_ne (kind_ne (by decide))).trans a.fr,a.io,a.ik,a.iw,a.il,a.ir⟩
 rw [List.map_append]; exact put_self _ _ _
theorem OAt.fresh1 {s:MS} {i:Nat} {x:HIx} {h:HS} (a:OAt s i x h) (L:LRow):OAt (s.put (46,x.fr) (.list (h.fresh.map lrowV ++ [lrowV L]))) i x { h with fresh:=h.fresh ++ [L] }:=by
 refine ⟨(put_ne (kind_ne (by decide))).trans a.o,(put_ne (kind_ne (by decide))).trans a.k,(put_ne (kind_ne (by decide))).trans a.w,(put_ne (kind_ne (by decide))).trans a.la,?_,a.io,a.ik,a.iw,a.il,a.ir⟩
 rw [List.map_append]; exact put_self _ _ _
theorem OAt.known {s:MS} {i:Nat} {x:HIx} {h:HS} (a:OAt s i x h) (k:Known):OAt (s.put (43,x.k) (.dict (ownD k))) i x { h with known:=k } :=
 ⟨(put_ne (kind_ne (by decide))).trans a.o,put_self _ _ _,(put_ne (kind_ne (by decide))).trans a.w,(put_ne (kind_ne (by decide))).trans a.la,(put_ne (kind_ne (by decide))).trans a.fr,a.io,a.ik,a.iw,a.il,a.ir⟩
section
variable {P:Prog} (H:OwnP P) {n i:Nat} {x:HIx} {s:MS} {h:HS} {key:Key} {r:Row}
theorem run_ldone (hf:P.fns 104 = some fl_done) (n:Nat) (a:Int) (w:W) (s:MS):run P (n + 1) 104 [.int a,wv w] s = .ok (.tup [.int (dn a w).1,.int (dn a w).2]) s:=by
 refine okr_eq (okr_run hf rfl ?_)
 cases w with
 | get=>exact st_if (t:=true) rfl (st_ret rfl ⟨rfl,rfl⟩)
 | set j=>exact st_if (t:=false) rfl (st_next (st_if (t:=true) rfl (st_ret rfl ⟨rfl,rfl⟩)))
 | add j=>exact st_if (t:=false) rfl (st_next (st_if (t:=false) rfl (st_next (st_ret rfl ⟨rfl,rfl⟩))))
include H
omit H
include H
end
end Mine
end
section
namespace Mine
noncomputable def LMk:Letter → Prop
 | .parcel _ _ _ _ ms=>MOk ms
 | .call _ c _ _ _=>0 ≤ c ∧ c < 6
 | _=>True
set_option genCtorIdx false in
structure HInv (h:HS) (ks:List Key) (m:Nat):Prop where
 hk:h.known.map (·.1) = ks
 hw:h.written.map (·.1) = ks
 kk:KOk h.known
 kw:KOk h.written
 lm:∀ L ∈ h.laid,LMk L
 la:h.laid.length ≤ m
 fr:h.fresh.length ≤ m
section
variable {h:HS} {ks:List Key} {m:Nat} {key:Key} {r:Row}
theorem HInv.get (I:HInv h ks m) (hk:key ∈ ks):∃ r,kget key h.known = some r ∧ MOk r.marks:=by
 rw [← I.hk] at hk
 obtain ⟨r,hr⟩:=kget_of hk
 exact ⟨r,hr,I.kk _ (kget_mem hr)⟩
theorem HInv.mono (I:HInv h ks m) {m':Nat} (hm:m ≤ m'):HInv h ks m':=⟨I.hk,I.hw,I.kk,I.kw,I.lm,Nat.le_trans I.la hm,Nat.le_trans I.fr hm⟩
theorem HInv.z (I:HInv h ks m) (hm:m < 16777000) (hks:ks.length ≤ 6):HZ h:=by
 have h1:=congrArg List.length I.hk
 have h2:=congrArg List.length I.hw
 rw [List.length_map] at h1 h2
 exact ⟨Nat.lt_of_le_of_lt I.la hm,Nat.lt_of_le_of_lt I.fr hm,by lia,by lia⟩
theorem KOk.put {k:Known} (hk:KOk k) (key:Key) {r:Row} (hr:MOk r.marks):KOk (kput key r k):=fun p hp=>by
 rcases mem_kput hp with rfl | hp
 ·exact hr
 ·exact hk p hp
theorem mem_snoc {α:Type} {P:α → Prop} {l:List α} {a:α} (h:∀ x ∈ l,P x) (ha:P a):∀ x ∈ l ++ [a],P x:=fun x hx=>by
 rcases List.mem_append.1 hx with hx | hx
 ·exact h x hx
 ·rw [List.mem_singleton.1 hx]; exact ha
theorem len_snoc {α:Type} {l:List α} {a:α} {m:Nat} (h:l.length ≤ m):(l ++ [a]).length ≤ m + 1:=by rw [List.length_append]; exact Nat.succ_le_succ h
theorem HInv.came (I:HInv h ks m) (L:Letter) (hL:LMk L):HInv (h.came L) ks (m + 1):=by
 cases L with
 | answer=>exact I.mono (Nat.le_succ _)
 | call hh c n key w =>
  cases hk:kget key h.known with
  | none=>rw [came_call0 hk]; exact I.mono (Nat.le_succ _)
  | some r =>
   rw [came_call hk]
   show HInv (if r.st = .here then h.called c n key w r else h) ks (m + 1)
   split
   ·have hf:HInv (h.first c n key w r) ks (m + 1) :=
     ⟨(keys_kput _ _ _ _ hk).trans I.hk,I.hw,I.kk.put _ (MOk.put (I.kk _ (kget_mem hk)) hL.1 hL.2),I.kw,mem_snoc I.lm trivial,len_snoc I.la,len_snoc I.fr⟩
    unfold HS.called
    split
    ·split
     ·exact I.mono (Nat.le_succ _)
     ·split
      ·exact ⟨I.hk,I.hw,I.kk,I.kw,mem_snoc I.lm trivial,len_snoc I.la,Nat.le_succ_of_le I.fr⟩
      ·exact hf
    ·exact hf
   ·exact I.mono (Nat.le_succ _)
 | parcel hh key tn am ms =>
  cases hk:kget key h.known with
  | none=>rw [came_parcel0 hk]; exact I.mono (Nat.le_succ _)
  | some r =>
   rw [came_parcel hk]
   show HInv { h with known:=if r.turn < tn then kput key ⟨.here,tn,am,ms⟩ h.known else h.known,laid:=h.laid ++ [.taken (1 - h.num) key tn] } ks (m + 1)
   split
   ·exact ⟨(keys_kput _ _ _ _ hk).trans I.hk,I.hw,I.kk.put _ hL,I.kw,mem_snoc I.lm trivial,len_snoc I.la,Nat.le_succ_of_le I.fr⟩
   ·exact ⟨I.hk,I.hw,I.kk,I.kw,mem_snoc I.lm trivial,len_snoc I.la,Nat.le_succ_of_le I.fr⟩
 | taken hh key tn =>
  cases hk:kget key h.known with
  | none=>rw [came_taken0 hk]; exact I.mono (Nat.le_succ _)
  | some r =>
   rw [came_taken hk]
   show HInv (if r.st = .owes ∧ tn = r.turn + 1 then { h with known:=kput key ⟨.gone,r.turn,0,[]⟩ h.known } else h) ks (m + 1)
   split
   ·exact ⟨(keys_kput _ _ _ _ hk).trans I.hk,I.hw,I.kk.put _ trivial,I.kw,I.lm,Nat.le_succ_of_le I.la,Nat.le_succ_of_le I.fr⟩
   ·exact I.mono (Nat.le_succ _)
theorem HInv.move (I:HInv h ks m) (hk:kget key h.known = some r):HInv (h.move key r) ks (m + 1) :=
 ⟨(keys_kput _ _ _ _ hk).trans I.hk,I.hw,I.kk.put _ (I.kk _ (kget_mem hk)),I.kw,mem_snoc I.lm (I.kk _ (kget_mem hk)),len_snoc I.la,Nat.le_succ_of_le I.fr⟩
theorem HInv.write (I:HInv h ks m):HInv h.write ks m:=⟨I.hk,I.hk,I.kk,I.kk,fun _ q=>(List.not_mem_nil q).elim,Nat.zero_le _,Nat.zero_le _⟩
theorem HInv.sleep (I:HInv h ks m):HInv h.sleep ks m:=⟨I.hw,I.hw,I.kw,I.kw,fun _ q=>(List.not_mem_nil q).elim,Nat.zero_le _,Nat.zero_le _⟩
theorem num_came (h:HS) (L:Letter):(h.came L).num = h.num:=by
 cases L with
 | answer=>rfl
 | call hh c n key w =>
  cases hk:kget key h.known with
  | none=>rw [came_call0 hk]
  | some r =>
   rw [came_call hk]
   unfold HS.called
   split
   ·split
    ·split
     ·rfl
     ·split <;> rfl
    ·rfl
   ·rfl
 | parcel hh key tn am ms =>
  cases hk:kget key h.known with
  | none=>rw [came_parcel0 hk]
  | some r=>rw [came_parcel hk]
 | taken hh key tn =>
  cases hk:kget key h.known with
  | none=>rw [came_taken0 hk]
  | some r=>rw [came_taken hk]; split <;> rfl
theorem kput_new (key:Key) (x:Row):∀ k:Known,key ∉ k.map (·.1) → kput key x k = k ++ [(key,x)]
 | [],_=>rfl
 | (a,r) :: l,hn=>by
  have h1:¬ a = key:=fun e=>hn (e ▸ List.mem_cons_self ..)
  rw [kput,if_neg h1,kput_new key x l fun q=>hn (List.mem_cons_of_mem _ q)]; rfl
theorem fold_new (x:Row):∀ (ks:List Key) (k:Known),(k.map (·.1) ++ ks).Nodup → ks.foldl (fun k key=>kput key x k) k = k ++ ks.map fun key=>(key,x)
 | [],k,_=>(List.append_nil k).symm
 | key :: ks,k,nd=>by
  have hn:key ∉ k.map (·.1):=fun q=>(List.nodup_append.1 nd).2.2 _ q _ (List.mem_cons_self ..) rfl
  rw [List.foldl_cons,kput_new key x k hn,fold_new x ks,List.append_assoc]; rfl
  rw [List.map_append,List.append_assoc]; exact nd
theorem new_known (num:Int) {ks:List Key} (nd:ks.Nodup):(HS.new num ks).known = ks.map fun key=>(key,row0 num):=fold_new (row0 num) ks [] nd
theorem HInv.new (num:Int) (nd:ks.Nodup):HInv (HS.new num ks) ks 0:=by
 have e:=new_known num nd
 have hk:(HS.new num ks).known.map (·.1) = ks:=by rw [e,List.map_map]; exact List.map_id ks
 have ok:KOk (HS.new num ks).known:=fun p hp=>by
  rw [e] at hp
  obtain ⟨key,-,rfl⟩:=List.mem_map.1 hp
  unfold row0
  split <;> exact trivial
 exact ⟨hk,hk,ok,ok,fun _ q=>(List.not_mem_nil q).elim,Nat.le_refl _,Nat.le_refl _⟩
theorem alike_w {s:MS} (d:Nat) (w:W):Alike s (d + 1) (wv w) (wv w):=by
 cases w
 ·exact alike_tup (by show 1 ≤ 16777216; decide) ⟨alike_str _ _,trivial⟩
 ·exact alike_tup (by show 2 ≤ 16777216; decide) ⟨alike_str _ _,alike_int _ _,trivial⟩
 ·exact alike_tup (by show 2 ≤ 16777216; decide) ⟨alike_str _ _,alike_int _ _,trivial⟩
theorem alike_lrow {s:MS} (d:Nat) (r:LRow):Alike s (d + 2) (lrowV r) (lrowV r) :=
 alike_tup (by show 5 ≤ 16777216; decide) ⟨alike_int _ _,alike_int _ _,alike_str _ _,alike_w _ _,alike_int _ _,trivial⟩
theorem nudge_len (I:HInv h ks m):h.nudge.length ≤ ks.length:=by
 have h2:=congrArg List.length I.hw
 rw [List.length_map] at h2
 rw [HS.nudge,List.length_map,← h2]; exact List.length_filter_le ..
end
end Mine
end
section
namespace Mine
set_option genCtorIdx false in
structure Side (p:Int) (K D K' D':Row):Prop where
 pk:(K.turn - p) % 2 = 0
 pd:(D.turn - p) % 2 = 0
 le:D.turn ≤ K.turn
 up:K.turn ≤ D'.turn + 1
 hk:K.st = .here → K'.turn < K.turn
 hd:D.st = .here → K'.turn < D.turn
 gk:K.st = .gone → K.turn + 1 ≤ D'.turn
 gd:D.st = .gone → D.turn + 1 ≤ D'.turn
 sm:K.turn = D.turn → D.st ≠ .here → K.st ≠ .here
set_option genCtorIdx false in
structure PP (T:Int) (K D:Row):Prop where
 tu:T - 1 ≤ D.turn
 d:D.turn = T - 1 → D.st ≠ .here
 k:K.turn = T - 1 → K.st ≠ .here
set_option genCtorIdx false in
structure LP (T:Int) (K:Row):Prop where
 tu:T - 1 ≤ K.turn
 k:K.turn = T - 1 → K.st ≠ .here
section
variable {p T am:Int} {K D K' D':Row} {ms:List Mark}
theorem Side.move (a:Side p K D K' D'):Side p { K with st:=.owes } D K' D':=⟨a.pk,a.pd,a.le,a.up,nofun,a.hd,nofun,a.gd,nofun⟩
theorem Side.move' (b:Side (1 - p) K' D' K D):Side (1 - p) K' D' { K with st:=.owes } D:=⟨b.pk,b.pd,b.le,b.up,b.hk,b.hd,b.gk,b.gd,b.sm⟩
theorem Side.lt (a:Side p K D K' D') (b:Side (1 - p) K' D' K D) (ht:(T - p) % 2 = 0) (h:K.turn < T):K'.turn < T:=by
 have h1:=b.up; have h2:=a.le; have h3:=b.pk
 omega
theorem Side.parcel (a:Side p K D K' D') (b:Side (1 - p) K' D' K D) (ht:(T - p) % 2 = 0) (h:K.turn < T) (L:PP T K' D'):Side p ⟨.here,T,am,ms⟩ D K' D':=by
 have h1:=a.lt b ht h; have h2:=a.le; have h3:=L.tu
 exact ⟨ht,a.pd,by show D.turn ≤ T; lia,by show T ≤ _; lia,fun _=>h1,a.hd,nofun,a.gd,fun e=>by have e:T = D.turn:=e; lia⟩
theorem Side.parcel' (a:Side p K D K' D') (b:Side (1 - p) K' D' K D) (ht:(T - p) % 2 = 0) (h:K.turn < T) (L:PP T K' D'):Side (1 - p) K' D' ⟨.here,T,am,ms⟩ D:=by
 have h1:=a.lt b ht h; have h2:=b.le; have h3:=L.tu
 exact ⟨b.pk,b.pd,b.le,b.up,fun e=>absurd e (L.k (by omega)),fun e=>absurd e (L.d (by omega)),b.gk,b.gd,b.sm⟩
theorem Side.taken (a:Side p K D K' D') (h:K.turn + 1 ≤ D'.turn):Side p ⟨.gone,K.turn,0,[]⟩ D K' D':=⟨a.pk,a.pd,a.le,a.up,nofun,a.hd,fun _=>h,a.gd,nofun⟩
theorem Side.taken' (b:Side (1 - p) K' D' K D):Side (1 - p) K' D' ⟨.gone,K.turn,0,[]⟩ D:=⟨b.pk,b.pd,b.le,b.up,b.hk,b.hd,b.gk,b.gd,b.sm⟩
theorem Side.write (a:Side p K D K' D'):Side p K K K' D':=⟨a.pk,a.pk,Int.le_refl _,a.up,a.hk,a.hk,a.gk,a.gk,fun _ h=>h⟩
theorem Side.write' (a:Side p K D K' D') (b:Side (1 - p) K' D' K D):Side (1 - p) K' D' K K :=
 have h:=a.le
 ⟨b.pk,b.pd,b.le,by have:=b.up; lia,b.hk,b.hd,fun e=>by have:=b.gk e; lia,fun e=>by have:=b.gd e; lia,b.sm⟩
theorem Side.sleep (a:Side p K D K' D'):Side p D D K' D':=⟨a.pd,a.pd,Int.le_refl _,by have:=a.le; have:=a.up; lia,a.hd,a.hd,a.gd,a.gd,fun _ h=>h⟩
theorem Side.sleep' (a:Side p K D K' D') (b:Side (1 - p) K' D' K D):Side (1 - p) K' D' D D :=
 have h:=a.le
 ⟨b.pk,b.pd,b.le,b.up,fun e=>by have:=b.hk e; omega,fun e=>by have:=b.hd e; omega,b.gk,b.gd,b.sm⟩
theorem PP.move (L:PP T K D):PP T { K with st:=.owes } D:=⟨L.tu,L.d,nofun⟩
theorem PP.came (L:PP T K D) (a:Side p K D K' D') {T':Int} (h:K.turn < T'):PP T ⟨.here,T',am,ms⟩ D:=⟨L.tu,L.d,fun e=>by have e:T' = T - 1:=e; have:=L.tu; have:=a.le; lia⟩
theorem PP.taken (L:PP T K D):PP T ⟨.gone,K.turn,0,[]⟩ D:=⟨L.tu,L.d,nofun⟩
theorem PP.write (L:PP T K D) (a:Side p K D K' D'):PP T K K:=⟨by have:=L.tu; have:=a.le; lia,L.k,L.k⟩
theorem PP.sleep (L:PP T K D):PP T D D:=⟨L.tu,L.d,L.d⟩
theorem LP.post (L:LP T K):PP T K K:=⟨L.tu,L.k,L.k⟩
theorem LP.moved:LP (K.turn + 1) { K with st:=.owes }:=⟨by show K.turn + 1 - 1 ≤ K.turn; lia,nofun⟩
theorem LP.move (L:LP T K):LP T { K with st:=.owes }:=⟨L.tu,nofun⟩
theorem LP.came (L:LP T K) {T':Int} (h:K.turn < T'):LP T ⟨.here,T',am,ms⟩:=⟨by have:=L.tu; show T - 1 ≤ T'; lia,fun e=>by have e:T' = T - 1:=e; have:=L.tu; lia⟩
theorem LP.taken (L:LP T K):LP T ⟨.gone,K.turn,0,[]⟩:=⟨L.tu,nofun⟩
theorem Side.nudge (a:Side p K D K' D') (h:D.st = .owes):PP (D.turn + 1) K D:=⟨by lia,fun _=>by rw [h]; nofun,fun e=>a.sm (by lia) (by rw [h]; nofun)⟩
theorem Side.one (a:Side p K D K' D') (b:Side (1 - p) K' D' K D):¬ (K.st = .here ∧ K'.st = .here):=fun h=>by
 have h1:=a.hk h.1; have h2:=b.hk h.2
 lia
theorem Side.owes (a:Side p K D K' D') (b:Side (1 - p) K' D' K D) (h1:K.st ≠ .here) (h2:K'.st ≠ .here):K.st = .owes ∨ K'.st = .owes:=by
 cases hK:K.st with
 | here=>exact absurd hK h1
 | owes=>exact .inl rfl
 | gone =>
  cases hK':K'.st with
  | here=>exact absurd hK' h2
  | owes=>exact .inr rfl
  | gone =>
   have g1:=a.gk hK; have g2:=b.gk hK'; have g3:=a.le; have g4:=b.le
   lia
end
end Mine
end
section
namespace Mine
noncomputable def f_is_whole:Fn:=⟨1,["thing"],[.ret (some (.and [.isinst (.loc 0) [.int],.not (.isinst (.loc 0) [.bool])]))]⟩
noncomputable def f_need_wish (xc:Nat):Fn:=⟨1,["wish"],[.ite (.or [.not (.isinst (.loc 0) [.tuple]),.cmp (.prim .len [.loc 0]) .lt (.int 1),.not (.isinst (.sub (.loc 0) (.int 0)) [.str])]) [.raise xc] [],.ite (.and [.cmp (.sub (.loc 0) (.int 0)) .eq (.str [103,101,116]),.cmp (.prim .len [.loc 0]) .eq (.int 1)]) [.ret none] [],.ite (.or [.cmp (.sub (.loc 0) (.int 0)) .notin (.tup [.str [115,101,116],.str [97,100,100]]),.cmp (.prim .len [.loc 0]) .ne (.int 2),.not (.call 0 [.sub (.loc 0) (.int 1)])]) [.raise xc] [],.ite (.not (.cmp2 (.neg (.gint "GREATEST" 1000000000000000000000000000000)) .le (.sub (.loc 0) (.int 1)) .le (.gint "GREATEST" 1000000000000000000000000000000))) [.raise xc] []]⟩
noncomputable def f_is_key:Fn:=⟨1,["thing","sign"],[.ite (.or [.not (.isinst (.loc 0) [.str]),.not (.cmp2 (.int 1) .le (.prim .len [.loc 0]) .le (.gint "LONGEST" 8))]) [.ret (some (.bool false))] [],.for_ (.inl (.loc 1)) false (.loc 0) [.ite (.cmp (.loc 1) .notin (.gstr "LETTERS" [97,98,99,100,101,102,103,104,105,106,107,108,109,110,111,112,113,114,115,116,117,118,119,120,121,122])) [.ret (some (.bool false))] []],.ret (some (.bool true))]⟩
noncomputable def f_need_world (xc:Nat):Fn:=⟨2,["keys","callers","k"],[.ite (.or [.not (.isinst (.loc 0) [.list]),.not (.cmp2 (.int 1) .le (.prim .len [.loc 0]) .le (.gint "MOST" 6))]) [.raise xc] [],.for_ (.inl (.loc 2)) true (.prim .len [.loc 0]) [.ite (.or [.not (.call 4 [.sub (.loc 0) (.loc 2)]),.cmp (.sub (.loc 0) (.loc 2)) .isin (.slice (.loc 0) none (some (.loc 2)))]) [.raise xc] []],.ite (.or [.not (.call 0 [.loc 1]),.not (.cmp2 (.int 1) .le (.loc 1) .le (.gint "MOST" 6))]) [.raise xc] []]⟩
noncomputable def f_Caller_init:Fn:=⟨2,["self","number"],[.setattr (.loc 0) 0 (.loc 1),.setattr (.loc 0) 1 (.int 0),.setattr (.loc 0) 2 .none,.setattr (.loc 0) 3 (.lstM 8 [])]⟩
noncomputable def f_Caller_begin:Fn:=⟨3,["self","key","wish"],[.setattr (.loc 0) 1 (.bin .add (.attr (.loc 0) 1) (.int 1)),.setattr (.loc 0) 2 (.tup [.attr (.loc 0) 1,.loc 1,.loc 2]),.ret (some (.attr (.loc 0) 1))]⟩
noncomputable def f_Caller_letter:Fn:=⟨2,["self","house","call"],[.assign 2 (.attr (.loc 0) 2),.ret (some (.tup [.str [99,97,108,108],.loc 1,.attr (.loc 0) 0,.sub (.loc 2) (.int 0),.sub (.loc 2) (.int 1),.sub (.loc 2) (.int 2)]))]⟩
noncomputable def f_Caller_asking:Fn:=⟨1,["self"],[.ret (some (.attr (.loc 0) 2))]⟩
noncomputable def f_World_init:Fn:=⟨3,["self","keys","callers",""],[.expr (.call 5 [.loc 1,.loc 2]),.setattr (.loc 0) 8 (.prim .list1 [.loc 1]),.setattr (.loc 0) 9 (.lst [.new 1 [.int 0,.loc 1],.new 1 [.int 1,.loc 1]]),.setattr (.loc 0) 10 (.comp none 3 true (.loc 2) none (.new 2 [.loc 3])),.setattr (.loc 0) 11 (.lstM 9 []),.setattr (.loc 0) 12 (.lstM 10 [])]⟩
noncomputable def f_World_need_caller (xc:Nat):Fn:=⟨2,["self","caller"],[.ite (.or [.not (.call 0 [.loc 1]),.not (.cmp2 (.int 0) .le (.loc 1) .lt (.prim .len [.attr (.loc 0) 10]))]) [.raise xc] []]⟩
noncomputable def f_World_need_house (xc:Nat):Fn:=⟨2,["self","house"],[.ite (.or [.not (.call 0 [.loc 1]),.not (.cmp2 (.int 0) .le (.loc 1) .lt (.int 2))]) [.raise xc] []]⟩
noncomputable def f_World_need_key (xc:Nat):Fn:=⟨2,["self","key"],[.ite (.or [.not (.isinst (.loc 1) [.str]),.cmp (.loc 1) .notin (.attr (.loc 0) 8)]) [.raise xc] []]⟩
noncomputable def f_World_need_place (xc:Nat):Fn:=⟨2,["self","place"],[.ite (.or [.not (.call 0 [.loc 1]),.not (.cmp2 (.int 0) .le (.loc 1) .lt (.prim .len [.attr (.loc 0) 11]))]) [.raise xc] []]⟩
noncomputable def f_World_call (xc:Nat):Fn:=⟨5,["self","caller","house","key","wish","number"],[.expr (.meth (.loc 0) 13 [.loc 1]),.expr (.meth (.loc 0) 14 [.loc 2]),.expr (.meth (.loc 0) 15 [.loc 3]),.expr (.call 1 [.loc 4]),.ite (.isC true (.meth (.sub (.attr (.loc 0) 10) (.loc 1)) 11 []) .none) [.raise xc] [],.assign 5 (.meth (.sub (.attr (.loc 0) 10) (.loc 1)) 9 [.loc 3,.loc 4]),.expr (.bm .append (.attr (.loc 0) 11) [.meth (.sub (.attr (.loc 0) 10) (.loc 1)) 10 [.loc 2]]),.ret (some (.loc 5))]⟩
noncomputable def f_World_again (xc:Nat):Fn:=⟨3,["self","caller","house"],[.expr (.meth (.loc 0) 13 [.loc 1]),.expr (.meth (.loc 0) 14 [.loc 2]),.ite (.isC false (.meth (.sub (.attr (.loc 0) 10) (.loc 1)) 11 []) .none) [.raise xc] [],.expr (.bm .append (.attr (.loc 0) 11) [.meth (.sub (.attr (.loc 0) 10) (.loc 1)) 10 [.loc 2]])]⟩
noncomputable def f_World_letters:Fn:=⟨1,["self"],[.ret (some (.listM 11 (.attr (.loc 0) 11)))]⟩
noncomputable def f_World_brought:Fn:=⟨2,["self","letter"],[.ite (.cmp (.sub (.loc 1) (.int 0)) .eq (.str [97,110,115,119,101,114])) [.expr (.meth (.sub (.attr (.loc 0) 10) (.sub (.loc 1) (.int 1))) 2 [.sub (.loc 1) (.int 2),.sub (.loc 1) (.int 3)])] [.expr (.meth (.sub (.attr (.loc 0) 9) (.sub (.loc 1) (.int 1))) 2 [.loc 1])]]⟩
noncomputable def f_World_hand:Fn:=⟨2,["self","place"],[.expr (.meth (.loc 0) 16 [.loc 1]),.expr (.meth (.loc 0) 20 [.bm .pop (.attr (.loc 0) 11) [.loc 1]])]⟩
noncomputable def f_World_twice:Fn:=⟨2,["self","place"],[.expr (.meth (.loc 0) 16 [.loc 1]),.expr (.meth (.loc 0) 20 [.sub (.attr (.loc 0) 11) (.loc 1)])]⟩
noncomputable def f_World_lose:Fn:=⟨2,["self","place"],[.expr (.meth (.loc 0) 16 [.loc 1]),.expr (.bm .pop (.attr (.loc 0) 11) [.loc 1])]⟩
noncomputable def f_World_sleep:Fn:=⟨2,["self","house"],[.expr (.meth (.loc 0) 14 [.loc 1]),.expr (.meth (.sub (.attr (.loc 0) 9) (.loc 1)) 7 [])]⟩
noncomputable def f_World_ledger:Fn:=⟨1,["self"],[.ret (some (.listM 12 (.attr (.loc 0) 12)))]⟩
noncomputable def f_World_asking:Fn:=⟨2,["self","caller"],[.expr (.meth (.loc 0) 13 [.loc 1]),.ret (some (.meth (.sub (.attr (.loc 0) 10) (.loc 1)) 11 []))]⟩
set_option genCtorIdx false in
structure WorldP (P:Prog):Prop where
 whole:P.fns 0 = some f_is_whole
 ncal:∃ xc,P.fns 41 = some (f_World_need_caller xc)
 nhou:∃ xc,P.fns 42 = some (f_World_need_house xc)
 nkey:∃ xc,P.fns 43 = some (f_World_need_key xc)
 npla:∃ xc,P.fns 44 = some (f_World_need_place xc)
 cask:P.fns 14 = some f_Caller_asking
 clet:P.fns 12 = some f_Caller_letter
 brou:P.fns 48 = some f_World_brought
 m13:P.meths 0 13 = some 41
 m14:P.meths 0 14 = some 42
 m15:P.meths 0 15 = some 43
 m16:P.meths 0 16 = some 44
 m20:P.meths 0 20 = some 48
 c9:P.meths 2 9 = some 11
 c10:P.meths 2 10 = some 12
 c11:P.meths 2 11 = some 14
noncomputable def hn:Bool → Int
 | false=>0
 | true=>1
noncomputable def hx:Bool → Nat
 | false=>0
 | true=>1
noncomputable def upd {α:Type} (f:Bool → α) (i:Bool) (v:α):Bool → α:=fun k=>if k = i then v else f k
section
variable {α:Type} {f:Bool → α} {i k:Bool} {v:α}
theorem upd_self:upd f i v i = v:=if_pos rfl
theorem upd_ne (h:k ≠ i):upd f i v k = f k:=if_neg h
theorem upd_all {P:Bool → α → Prop} (h:P i v) (g:∀ k,k ≠ i → P k (f k)):∀ k,P k (upd f i v k):=fun k=>by
 by_cases e:k = i
 ·subst e; rw [upd_self]; exact h
 ·rw [upd_ne e]; exact g k e
end
theorem hx_inj {i k:Bool} (h:k ≠ i):hx k ≠ hx i:=by
 cases i <;> cases k <;> first | exact absurd rfl h | decide
set_option genCtorIdx false in
structure HH (s:MS) (x:Bool → HIx) (h:Bool → HS):Prop where
 at_:∀ i,HAt s (hx i) (x i) (h i)
 k:(x false).k ≠ (x true).k
 w:(x false).w ≠ (x true).w
 la:(x false).la ≠ (x true).la
 fr:(x false).fr ≠ (x true).fr
noncomputable def NH (l:Lbl):Prop:=l.1 ≠ 2 ∧ l.1 ≠ 4 ∧ l.1 ≠ 5 ∧ l.1 ≠ 6 ∧ l.1 ≠ 7
theorem hf_nh {i:Nat} {x:HIx} {l:Lbl} (q:HF i x l):¬ NH l:=fun z=>by
 rcases q with rfl | rfl | rfl | rfl | rfl
 ·exact z.1 rfl
 ·exact z.2.1 rfl
 ·exact z.2.2.1 rfl
 ·exact z.2.2.2.1 rfl
 ·exact z.2.2.2.2 rfl
section
variable {s s':MS} {x:Bool → HIx} {h:Bool → HS} {i:Bool}
theorem HH.step (a:HH s x h) (f:Fr NH s s'):HH s' x h:=⟨fun i=>(a.at_ i).step f fun l q z=>hf_nh q z,a.k,a.w,a.la,a.fr⟩
theorem HH.ne (a:HH s x h) {i k:Bool} (e:k ≠ i):∀ l,HF (hx k) (x k) l → ¬ HF (hx i) (x i) l:=by
 have sy:∀ {α:Type} {g:Bool → α},g false ≠ g true → g k ≠ g i:=by
  intro α g hg
  cases i <;> cases k <;> first | exact absurd rfl e | exact hg | exact hg.symm
 have h1:=hx_inj e
 have h2:=sy (g:=fun i=>(x i).k) a.k
 have h3:=sy (g:=fun i=>(x i).w) a.w
 have h4:=sy (g:=fun i=>(x i).la) a.la
 have h5:=sy (g:=fun i=>(x i).fr) a.fr
 rintro l (rfl | rfl | rfl | rfl | rfl) (q | q | q | q | q) <;> first | exact absurd (congrArg Prod.fst q) (of_decide_eq_true rfl) | skip
 ·exact h1 (congrArg Prod.snd q)
 ·exact h2 (congrArg Prod.snd q)
 ·exact h3 (congrArg Prod.snd q)
 ·exact h4 (congrArg Prod.snd q)
 ·exact h5 (congrArg Prod.snd q)
theorem HH.deed (a:HH s x h) {h':HS} (g:HAt s' (hx i) (x i) h') (f:Fr (HF (hx i) (x i)) s s'):HH s' x (upd h i h') :=
 ⟨upd_all (P:=fun k g=>HAt s' (hx k) (x k) g) g fun k e=>(a.at_ k).step f (a.ne e),a.k,a.w,a.la,a.fr⟩
theorem hf2 {k i:Bool} (e:k ≠ i) {x:HIx}:∀ l,HF (hx k) x l → ¬ At1 (2,hx i) l:=by
 rintro l (rfl | rfl | rfl | rfl | rfl) q <;> first | exact absurd (congrArg Prod.fst q) (of_decide_eq_true rfl) | skip
 exact hx_inj e (congrArg Prod.snd q)
theorem HH.slept (a:HH s x h) {h':HS} (g:HAt s' (hx i) ⟨s.cnt 4,(x i).w,s.cnt 6,s.cnt 7⟩ h') (f:Fr (At1 (2,hx i)) s s'):HH s' (upd x i ⟨s.cnt 4,(x i).w,s.cnt 6,s.cnt 7⟩) (upd h i h'):=by
 have hk:=fun k=>Nat.ne_of_lt (a.at_ k).ik
 have hl:=fun k=>Nat.ne_of_lt (a.at_ k).il
 have hr:=fun k=>Nat.ne_of_lt (a.at_ k).ir
 refine ⟨fun k=>?_,?_,?_,?_,?_⟩
 ·by_cases e:k = i
  ·subst e; rw [upd_self,upd_self]; exact g
  ·rw [upd_ne e,upd_ne e]; exact (a.at_ k).step f (hf2 e)
 ·cases i
  ·exact (hk true).symm
  ·exact hk false
 ·cases i <;> exact a.w
 ·cases i
  ·exact (hl true).symm
  ·exact hl false
 ·cases i
  ·exact (hr true).symm
  ·exact hr false
end
set_option genCtorIdx false in
structure CS where
 begun:Int
 op:Option (Int × Key × W)
 closed:List (Int × Int)
noncomputable def opV:Option (Int × Key × W) → V
 | none=>.none
 | some p=>.tup [.int p.1,.str p.2.1,wv p.2.2]
noncomputable def ansV (p:Int × Int):V:=.tup [.int p.1,.int p.2]
noncomputable def cObj (i:Nat) (c:CS):MObj:=.inst 2 [(0,.int i),(1,.int c.begun),(2,opV c.op),(3,.ref (8,i))]
set_option genCtorIdx false in
structure WS where
 nc:Nat
 h:Bool → HS
 c:Nat → CS
 post:List Letter
 rows:List LRow
noncomputable def callersV (nc:Nat):List V:=(List.range nc).map fun (i:Nat)=>.ref (3,i)
noncomputable def wObj (ks:List Key) (nc:Nat):MObj:=.inst 0 [(8,.lst (ks.map .str)),(9,.lst [.ref (2,0),.ref (2,1)]),(10,.lst (callersV nc)),(11,.ref (9,0)),(12,.ref (10,0))]
set_option genCtorIdx false in
structure WAt (s:MS) (ks:List Key) (W:WS) (x:Bool → HIx):Prop where
 o:s.heap (1,0) = some (wObj ks W.nc)
 hh:HH s x W.h
 co:∀ i,i < W.nc → s.heap (3,i) = some (cObj i (W.c i))
 cl:∀ i,i < W.nc → s.heap (8,i) = some (.list ((W.c i).closed.map ansV))
 po:s.heap (9,0) = some (.list (W.post.map letV))
 ro:s.heap (10,0) = some (.list (W.rows.map lrowV))
 i1:0 < s.cnt 1
 i3:W.nc ≤ s.cnt 3
 i8:W.nc ≤ s.cnt 8
 i9:0 < s.cnt 9
 i10:0 < s.cnt 10
noncomputable def updN (f:Nat → CS) (i:Nat) (v:CS):Nat → CS:=fun k=>if k = i then v else f k
noncomputable def NW (l:Lbl):Prop:=11 ≤ l.1
section
variable {s s':MS} {ks:List Key} {W:WS} {x:Bool → HIx}
theorem nw_nh {l:Lbl} (h:NW l):NH l:=by
 have h:11 ≤ l.1:=h
 exact ⟨by lia,by lia,by lia,by lia,by lia⟩
theorem WAt.step (a:WAt s ks W x) (f:Fr NW s s'):WAt s' ks W x where
 o:=(f.1 (1,0) a.i1 (of_decide_eq_true (p:=¬ 11 ≤ 1) rfl)).trans a.o
 hh:=a.hh.step (f.mono fun _=>nw_nh)
 co i hi:=(f.1 (3,i) (Nat.lt_of_lt_of_le hi a.i3) (of_decide_eq_true (p:=¬ 11 ≤ 3) rfl)).trans (a.co i hi)
 cl i hi:=(f.1 (8,i) (Nat.lt_of_lt_of_le hi a.i8) (of_decide_eq_true (p:=¬ 11 ≤ 8) rfl)).trans (a.cl i hi)
 po:=(f.1 (9,0) a.i9 (of_decide_eq_true (p:=¬ 11 ≤ 9) rfl)).trans a.po
 ro:=(f.1 (10,0) a.i10 (of_decide_eq_true (p:=¬ 11 ≤ 10) rfl)).trans a.ro
 i1:=Nat.lt_of_lt_of_le a.i1 (f.2 _)
 i3:=Nat.le_trans a.i3 (f.2 _)
 i8:=Nat.le_trans a.i8 (f.2 _)
 i9:=Nat.lt_of_lt_of_le a.i9 (f.2 _)
 i10:=Nat.lt_of_lt_of_le a.i10 (f.2 _)
noncomputable def HO (l:Lbl):Prop:=l.1 = 2 ∨ l.1 = 4 ∨ l.1 = 5 ∨ l.1 = 6 ∨ l.1 = 7
theorem WAt.houses (a:WAt s ks W x) (f:Fr HO s s') {x':Bool → HIx} {h':Bool → HS} (hh:HH s' x' h'):WAt s' ks { W with h:=h' } x' where
 o:=(f.1 (1,0) a.i1 (of_decide_eq_true (p:=¬ (1 = 2 ∨ 1 = 4 ∨ 1 = 5 ∨ 1 = 6 ∨ 1 = 7)) rfl)).trans a.o
 hh:=hh
 co i hi:=(f.1 (3,i) (Nat.lt_of_lt_of_le hi a.i3) (of_decide_eq_true (p:=¬ (3 = 2 ∨ 3 = 4 ∨ 3 = 5 ∨ 3 = 6 ∨ 3 = 7)) rfl)).trans (a.co i hi)
 cl i hi:=(f.1 (8,i) (Nat.lt_of_lt_of_le hi a.i8) (of_decide_eq_true (p:=¬ (8 = 2 ∨ 8 = 4 ∨ 8 = 5 ∨ 8 = 6 ∨ 8 = 7)) rfl)).trans (a.cl i hi)
 po:=(f.1 (9,0) a.i9 (of_decide_eq_true (p:=¬ (9 = 2 ∨ 9 = 4 ∨ 9 = 5 ∨ 9 = 6 ∨ 9 = 7)) rfl)).trans a.po
 ro:=(f.1 (10,0) a.i10 (of_decide_eq_true (p:=¬ (10 = 2 ∨ 10 = 4 ∨ 10 = 5 ∨ 10 = 6 ∨ 10 = 7)) rfl)).trans a.ro
 i1:=Nat.lt_of_lt_of_le a.i1 (f.2 _)
 i3:=Nat.le_trans a.i3 (f.2 _)
 i8:=Nat.le_trans a.i8 (f.2 _)
 i9:=Nat.lt_of_lt_of_le a.i9 (f.2 _)
 i10:=Nat.lt_of_lt_of_le a.i10 (f.2 _)
theorem ho_hf {i:Nat} {y:HIx} (f:Fr (HF i y) s s'):Fr HO s s':=f.mono fun l q=>by
 rcases q with rfl | rfl | rfl | rfl | rfl
 ·exact .inl rfl
 ·exact .inr (.inl rfl)
 ·exact .inr (.inr (.inl rfl))
 ·exact .inr (.inr (.inr (.inl rfl)))
 ·exact .inr (.inr (.inr (.inr rfl)))
theorem ho_at {i:Nat} (f:Fr (At1 (2,i)) s s'):Fr HO s s':=f.mono fun l q=>.inl (congrArg Prod.fst (show l = (2,i) from q))
theorem nh_put {l:Lbl} (h:NH l) (o:MObj):Fr NH s (s.put l o):=(Fr.refl _ _).put h o
theorem WAt.setPost (a:WAt s ks W x) (l:List Letter):WAt (s.put (9,0) (.list (l.map letV))) ks { W with post:=l } x :=
 ⟨(put_ne (kind_ne (by decide))).trans a.o,a.hh.step (nh_put (l:=(9,0)) (of_decide_eq_true (p:=9 ≠ 2 ∧ 9 ≠ 4 ∧ 9 ≠ 5 ∧ 9 ≠ 6 ∧ 9 ≠ 7) rfl) _),fun i hi=>(put_ne (kind_ne (by decide))).trans (a.co i hi),fun i hi=>(put_ne (kind_ne (by decide))).trans (a.cl i hi),put_self _ _ _,(put_ne (kind_ne (by decide))).trans a.ro,a.i1,a.i3,a.i8,a.i9,a.i10⟩
theorem WAt.setCaller (a:WAt s ks W x) (i:Nat) (c:CS) (hc:c.closed = (W.c i).closed):WAt (s.put (3,i) (cObj i c)) ks { W with c:=updN W.c i c } x:=by
 refine ⟨(put_ne (kind_ne (by decide))).trans a.o,a.hh.step (nh_put (l:=(3,i)) (of_decide_eq_true (p:=3 ≠ 2 ∧ 3 ≠ 4 ∧ 3 ≠ 5 ∧ 3 ≠ 6 ∧ 3 ≠ 7) rfl) _),fun k hk=>?_,fun k hk=>?_,(put_ne (kind_ne (by decide))).trans a.po,(put_ne (kind_ne (by decide))).trans a.ro,a.i1,a.i3,a.i8,a.i9,a.i10⟩
 ·show (s.put (3,i) (cObj i c)).heap (3,k) = some (cObj k (if k = i then c else W.c k))
  by_cases e:k = i
  ·subst e; rw [if_pos rfl]; exact put_self _ _ _
  ·rw [if_neg e]; exact (put_ne fun q=>e (congrArg Prod.snd q)).trans (a.co k hk)
 ·show (s.put (3,i) (cObj i c)).heap (8,k) = some (.list (List.map ansV (if k = i then c else W.c k).closed))
  refine ((put_ne (kind_ne (by decide))).trans (a.cl k hk)).trans ?_
  by_cases e:k = i
  ·rw [if_pos e,hc,e]
  ·rw [if_neg e]
end
section
variable {P:Prog} (H:WorldP P) {n:Nat} {s:MS} {ks:List Key} {W:WS} {x:Bool → HIx} {i:Nat}
theorem e_cmp2 {C:Calls} {l:Loc} {a b c:E} {o o2:Cop} {x y z v:V} (ha:ev P C a l s = .ok x s) (hb:ev P C b l s = .ok y s) (h1:cmpOp o x y s = .ok (.bool true) s) (hc:ev P C c l s = .ok z s) (h2:cmpOp o2 y z s = .ok v s):ev P C (.cmp2 a o b o2 c) l s = .ok v s:=by
 rw [ev_cmp2,ha]
 show Res.bind (ev P C b l s) _ = _
 rw [hb]
 show Res.bind (cmpOp o x y s) _ = _
 rw [h1]
 show Res.bind (ev P C c l s) _ = _
 rw [hc]; exact h2
theorem e_rngT {C:Calls} {l:Loc} {a b c:E} {x y z:Int} (ha:ev P C a l s = .ok (.int x) s) (hb:ev P C b l s = .ok (.int y) s) (hc:ev P C c l s = .ok (.int z) s) (h1:x ≤ y) (h2:y < z):ev P C (.cmp2 a .le b .lt c) l s = .ok (.bool true) s :=
 e_cmp2 ha hb (congrArg (fun q=>Res.ok (V.bool q) s) (decide_eq_true h1)) hc (congrArg (fun q=>Res.ok (V.bool q) s) (decide_eq_true h2))
theorem e_rngL {C:Calls} {l:Loc} {a b c:E} {x y z:Int} (ha:ev P C a l s = .ok (.int x) s) (hb:ev P C b l s = .ok (.int y) s) (hc:ev P C c l s = .ok (.int z) s) (h1:x ≤ y) (h2:y ≤ z):ev P C (.cmp2 a .le b .le c) l s = .ok (.bool true) s :=
 e_cmp2 ha hb (congrArg (fun q=>Res.ok (V.bool q) s) (decide_eq_true h1)) hc (congrArg (fun q=>Res.ok (V.bool q) s) (decide_eq_true h2))
theorem callers_len (nc:Nat):(callersV nc).length = nc:=by rw [callersV,List.length_map,List.length_range]
theorem callers_at {nc:Nat} (hi:i < nc) (s:MS):getItem (.lst (callersV nc)) (.int i) s = .ok (.ref (3,i)) s:=by
 have h:i < (callersV nc).length:=by rw [callers_len]; exact hi
 refine (i_seq (s:=s) (a:=.lst (callersV nc)) (k:=true) rfl i h).trans ?_
 congr 1
 rw [show (callersV nc)[i] = V.ref (3,(List.range nc)[i]'(by rw [List.length_range]; exact hi)) from List.getElem_map ..,List.getElem_range]
theorem vin_key {key:Key} (s:MS):∀ {ks:List Key},key ∈ ks → vin s (.str key) (ks.map .str) = some true
 | k :: ks,h=>by
  have e:vin s (.str key) ((k :: ks).map .str) = (match some (decide (k = key)),vin s (.str key) (ks.map .str) with | some p,some q=>some (p || q) | _,_=>none):=rfl
  rw [e]
  by_cases hk:k = key
  ·have:∀ l:List Key,∃ q,vin s (.str key) (l.map .str) = some q:=fun l=>by
    induction l with
    | nil=>exact ⟨false,rfl⟩
    | cons a l ih =>
     obtain ⟨q,hq⟩:=ih
     refine ⟨decide (a = key) || q,?_⟩
     show (match some (decide (a = key)),vin s (.str key) (l.map .str) with | some p,some q=>some (p || q) | _,_=>none) = _
     rw [hq]
   obtain ⟨q,hq⟩:=this ks
   rw [hq,decide_eq_true hk]; rfl
  ·rw [vin_key s ((List.mem_cons.1 h).resolve_left fun q=>hk q.symm)]
   show some (_ || true) = _
   rw [Bool.or_true]
include H
theorem run_whole (n:Nat) (i:Int) (s:MS):run P (n + 1) 0 [.int i] s = .ok (.bool true) s:=okr_eq (okr_run H.whole rfl (st_ret rfl ⟨rfl,rfl⟩))
theorem need_caller (n:Nat) (a:WAt s ks W x) (hi:i < W.nc):run P (n + 2) 41 [.ref (1,0),.int i] s = .ok .none s:=by
 obtain ⟨xc,hf⟩:=H.ncal
 refine okr_eq (okr_run hf rfl ?_)
 have hw:=run_whole H n i s
 exact st_if (t:=false) (s':=s) (e_orF (e_not (t:=true) (e_call (vs:=[.int i]) rfl hw)) (e_or1 (e_not (t:=true) (e_rngT (x:=0) (y:=i) (z:=(callersV W.nc).length) rfl rfl (e_prim (e_cons (e_attr rfl (ga_ok a.o rfl)) rfl) rfl) (by lia) (by rw [callers_len]; lia))))) (st_next (st_nil ⟨rfl,rfl⟩))
theorem need_house (n:Nat) (b:Bool) (s:MS):run P (n + 2) 42 [.ref (1,0),.int (hn b)] s = .ok .none s:=by
 obtain ⟨xc,hf⟩:=H.nhou
 refine okr_eq (okr_run hf rfl ?_)
 have hw:=run_whole H n (hn b) s
 exact st_if (t:=false) (s':=s) (e_orF (e_not (t:=true) (e_call (vs:=[.int (hn b)]) rfl hw)) (e_or1 (e_not (t:=true) (e_rngT (x:=0) (y:=hn b) (z:=2) rfl rfl rfl (by cases b <;> decide) (by cases b <;> decide))))) (st_next (st_nil ⟨rfl,rfl⟩))
theorem need_key (n:Nat) (a:WAt s ks W x) {key:Key} (hk:key ∈ ks):run P (n + 1) 43 [.ref (1,0),.str key] s = .ok .none s:=by
 obtain ⟨xc,hf⟩:=H.nkey
 refine okr_eq (okr_run hf rfl ?_)
 refine st_if (t:=false) (s':=s) (e_orF rfl (e_or1 (e_cmp rfl (e_attr rfl (ga_ok a.o rfl)) ?_))) (st_next (st_nil ⟨rfl,rfl⟩))
 show okB s ((vin s (.str key) (ks.map .str)).map (!·)) = _
 rw [vin_key s hk]; rfl
theorem need_place (n:Nat) (a:WAt s ks W x) {p:Nat} (hp:p < W.post.length):run P (n + 2) 44 [.ref (1,0),.int p] s = .ok .none s:=by
 obtain ⟨xc,hf⟩:=H.npla
 refine okr_eq (okr_run hf rfl ?_)
 have hw:=run_whole H n p s
 exact st_if (t:=false) (s':=s) (e_orF (e_not (t:=true) (e_call (vs:=[.int p]) rfl hw)) (e_or1 (e_not (t:=true) (e_rngT (x:=0) (y:=p) (z:=(W.post.map letV).length) rfl rfl (e_prim (e_cons (e_attr rfl (ga_ok a.o rfl)) rfl) (len_seq (seq_ref a.po))) (by lia) (by rw [List.length_map]; lia))))) (st_next (st_nil ⟨rfl,rfl⟩))
theorem run_casking (n:Nat) (a:WAt s ks W x) (hi:i < W.nc):run P (n + 1) 14 [.ref (3,i)] s = .ok (opV (W.c i).op) s :=
 okr_eq (okr_run H.cask rfl (st_ret (e_attr rfl (ga_ok (a.co i hi) rfl)) ⟨rfl,rfl⟩))
theorem run_cletter (n:Nat) (a:WAt s ks W x) (hi:i < W.nc) {p:Int × Key × Mine.W} (hp:(W.c i).op = some p) (b:Bool):run P (n + 1) 12 [.ref (3,i),.int (hn b)] s = .ok (letV (.call (hn b) i p.1 p.2.1 p.2.2)) s:=by
 have ho:=a.co i hi
 refine okr_eq (okr_run H.clet rfl ?_)
 refine st_assign (v:=.tup [.int p.1,.str p.2.1,wv p.2.2]) (s':=s) (e_attr rfl (ga_ok ho (congrArg (fun q=>some (opV q)) hp))) rfl ?_
 exact st_ret (by (repeat' first | exact rfl | apply e_attr | apply e_tup | apply e_cons | exact ga_ok (by assumption) rfl)) ⟨rfl,rfl⟩
omit H
theorem e_at {C:Calls} {l:Loc} {a b:E} (A:WAt s ks W x) (hi:i < W.nc) (ha:ev P C a l s = .ok (.ref (1,0)) s) (hb:ev P C b l s = .ok (.int i) s):ev P C (.sub (.attr a 10) b) l s = .ok (.ref (3,i)) s :=
 e_sub (e_attr ha (ga_ok A.o rfl)) hb (callers_at hi s)
theorem houses_at (b:Bool) (s:MS):getItem (.lst [.ref (2,0),.ref (2,1)]) (.int (hn b)) s = .ok (.ref (2,hx b)) s:=by cases b <;> rfl
theorem e_hat {C:Calls} {l:Loc} {a e:E} {b:Bool} (A:WAt s ks W x) (ha:ev P C a l s = .ok (.ref (1,0)) s) (hb:ev P C e l s = .ok (.int (hn b)) s):ev P C (.sub (.attr a 9) e) l s = .ok (.ref (2,hx b)) s :=
 e_sub (e_attr ha (ga_ok A.o rfl)) hb (houses_at b s)
theorem WAt.post1 (a:WAt s ks W x) (L:Letter):WAt (s.put (9,0) (.list (W.post.map letV ++ [letV L]))) ks { W with post:=W.post ++ [L] } x:=by
 have:=a.setPost (W.post ++ [L])
 rwa [List.map_append] at this
noncomputable def NWp (l:Lbl):Prop:=l.1 < 11
theorem nwp_put {l:Lbl} (h:l.1 < 11) (o:MObj):Fr NWp s (s.put l o):=(Fr.refl _ _).put h o
include H
theorem run_begin (hf:P.fns 11 = some f_Caller_begin) (n:Nat) (a:WAt s ks W x) (hi:i < W.nc) (key:Key) (w:Mine.W) :
  ∃ u,run P (n + 1) 11 [.ref (3,i),.str key,wv w] s = .ok (.int ((W.c i).begun + 1)) u ∧ WAt u ks { W with c:=updN W.c i ⟨(W.c i).begun + 1,some ((W.c i).begun + 1,key,w),(W.c i).closed⟩ } x ∧ Fr NWp s u:=by
 have ho:=a.co i hi
 have h1:(s.put (3,i) (cObj i ⟨(W.c i).begun + 1,(W.c i).op,(W.c i).closed⟩)).heap (3,i) = some (cObj i ⟨(W.c i).begun + 1,(W.c i).op,(W.c i).closed⟩):=put_self _ _ _
 have f1:Fr NWp s (s.put (3,i) (cObj i ⟨(W.c i).begun + 1,(W.c i).op,(W.c i).closed⟩)):=nwp_put (of_decide_eq_true (p:=3 < 11) rfl) _
 have a1:=a.setCaller i ⟨(W.c i).begun + 1,(W.c i).op,(W.c i).closed⟩ rfl
 refine ⟨(s.put (3,i) (cObj i ⟨(W.c i).begun + 1,(W.c i).op,(W.c i).closed⟩)).put (3,i) (cObj i ⟨(W.c i).begun + 1,some ((W.c i).begun + 1,key,w),(W.c i).closed⟩),okr_eq (okr_run hf rfl ?_),?_,f1.put (of_decide_eq_true (p:=3 < 11) rfl) _⟩
 ·refine st_setattr (v:=.int ((W.c i).begun + 1)) (s':=s.put (3,i) (cObj i ⟨(W.c i).begun + 1,(W.c i).op,(W.c i).closed⟩)) (by (repeat' first | exact rfl | apply e_attr | apply e_bin | exact ga_ok (by assumption) rfl)) rfl (sa_ok 1 _ ho rfl) ?_
  generalize s.put (3,i) (cObj i ⟨(W.c i).begun + 1,(W.c i).op,(W.c i).closed⟩) = t at h1
  refine st_setattr (v:=opV (some ((W.c i).begun + 1,key,w))) (s':=t.put (3,i) (cObj i ⟨(W.c i).begun + 1,some ((W.c i).begun + 1,key,w),(W.c i).closed⟩)) (by (repeat' first | exact rfl | apply e_attr | apply e_tup | apply e_cons | exact ga_ok (by assumption) rfl)) rfl (sa_ok 2 _ h1 rfl) ?_
  have h2:(t.put (3,i) (cObj i ⟨(W.c i).begun + 1,some ((W.c i).begun + 1,key,w),(W.c i).closed⟩)).heap (3,i) = some (cObj i ⟨(W.c i).begun + 1,some ((W.c i).begun + 1,key,w),(W.c i).closed⟩):=put_self _ _ _
  exact st_ret (by (repeat' first | exact rfl | apply e_attr | exact ga_ok (by assumption) rfl)) ⟨rfl,rfl⟩
 ·have a2:=a1.setCaller i ⟨(W.c i).begun + 1,some ((W.c i).begun + 1,key,w),(W.c i).closed⟩ (by show _ = (if i = i then _ else _:CS).closed; rw [if_pos rfl])
  have e:updN (updN W.c i ⟨(W.c i).begun + 1,(W.c i).op,(W.c i).closed⟩) i ⟨(W.c i).begun + 1,some ((W.c i).begun + 1,key,w),(W.c i).closed⟩ = updN W.c i ⟨(W.c i).begun + 1,some ((W.c i).begun + 1,key,w),(W.c i).closed⟩:=by
   funext k
   show (if k = i then _ else if k = i then _ else W.c k) = if k = i then _ else W.c k
   split <;> rfl
  exact e ▸ a2
theorem run_wcall {xc yc:Nat} (hb:P.fns 11 = some f_Caller_begin) (hw:P.fns 1 = some (f_need_wish yc)) (hf:P.fns 45 = some (f_World_call xc)) (n:Nat) (a:WAt s ks W x) (hi:i < W.nc) (b:Bool) {key:Key} (hk:key ∈ ks) {w:Mine.W} (hn1:run P (n + 2) 1 [wv w] s = .ok .none s) (ho:(W.c i).op = none) (hz:W.post.length < 16777000) :
  ∃ u,run P (n + 3) 45 [.ref (1,0),.int i,.int (hn b),.str key,wv w] s = .ok (.int ((W.c i).begun + 1)) u ∧
   WAt u ks { W with c:=updN W.c i ⟨(W.c i).begun + 1,some ((W.c i).begun + 1,key,w),(W.c i).closed⟩,post:=W.post ++ [.call (hn b) i ((W.c i).begun + 1) key w] } x ∧ Fr NWp s u:=by
 have hco:=a.co i hi
 obtain ⟨t,e1,a1,f1⟩:=run_begin H hb (n + 1) a hi key w
 have hco1:=a1.co i hi
 have hlet:=run_cletter H (n + 1) a1 hi (p:=((W.c i).begun + 1,key,w)) (by show (if i = i then _ else _:CS).op = _; rw [if_pos rfl]) b
 have hll:(W.post.map letV).length < 16777216:=by rw [List.length_map]; lia
 refine ⟨t.put (9,0) (.list (W.post.map letV ++ [letV (.call (hn b) i ((W.c i).begun + 1) key w)])),okr_eq (okr_run hf rfl ?_),a1.post1 _,f1.put (of_decide_eq_true (p:=9 < 11) rfl) _⟩
 refine st_expr (e_meth (vs:=[.int i]) rfl ((meth_of a.o).trans H.m13) rfl (need_caller H n a hi)) ?_
 refine st_expr (e_meth (vs:=[.int (hn b)]) rfl ((meth_of a.o).trans H.m14) rfl (need_house H n b s)) ?_
 refine st_expr (e_meth (vs:=[.str key]) rfl ((meth_of a.o).trans H.m15) rfl (need_key H (n + 1) a hk)) ?_
 refine st_expr (e_call (vs:=[wv w]) rfl hn1) ?_
 refine st_if (t:=false) (e_isN (g:=true) (t:=true) (e_meth (e_at a hi rfl rfl) ((meth_of hco).trans H.c11) rfl (run_casking H (n + 1) a hi)) (by rw [ho]; exact decide_eq_true rfl)) (st_next ?_)
 refine st_assign (e_meth (vs:=[.str key,wv w]) (e_at a hi rfl rfl) ((meth_of hco).trans H.c9) rfl e1) rfl ?_
 refine st_expr (v:=.none) (e_bm (x:=.ref (9,0)) (e_attr rfl (ga_ok a1.o rfl)) (bm_list a1.po) (e_cons (e_meth (vs:=[.int (hn b)]) (e_at a1 hi rfl rfl) ((meth_of hco1).trans H.c10) rfl hlet) rfl) (append_at _ _ _ _ a1.po hll)) ?_
 exact st_ret rfl ⟨rfl,rfl⟩
theorem run_wagain {xc:Nat} (hf:P.fns 46 = some (f_World_again xc)) (n:Nat) (a:WAt s ks W x) (hi:i < W.nc) (b:Bool) {p:Int × Key × Mine.W} (ho:(W.c i).op = some p) (hz:W.post.length < 16777000) :
  ∃ u,run P (n + 3) 46 [.ref (1,0),.int i,.int (hn b)] s = .ok .none u ∧ WAt u ks { W with post:=W.post ++ [.call (hn b) i p.1 p.2.1 p.2.2] } x ∧ Fr NWp s u:=by
 have hco:=a.co i hi
 have hlet:=run_cletter H (n + 1) a hi ho b
 have hll:(W.post.map letV).length < 16777216:=by rw [List.length_map]; lia
 refine ⟨s.put (9,0) (.list (W.post.map letV ++ [letV (.call (hn b) i p.1 p.2.1 p.2.2)])),okr_eq (okr_run hf rfl ?_),a.post1 _,nwp_put (of_decide_eq_true (p:=9 < 11) rfl) _⟩
 refine st_expr (e_meth (vs:=[.int i]) rfl ((meth_of a.o).trans H.m13) rfl (need_caller H n a hi)) ?_
 refine st_expr (e_meth (vs:=[.int (hn b)]) rfl ((meth_of a.o).trans H.m14) rfl (need_house H n b s)) ?_
 refine st_if (t:=false) (e_isN (g:=false) (t:=false) (e_meth (e_at a hi rfl rfl) ((meth_of hco).trans H.c11) rfl (run_casking H (n + 1) a hi)) (by rw [ho]; exact decide_eq_false nofun)) (st_next ?_)
 exact st_expr (v:=.none) (e_bm (x:=.ref (9,0)) (e_attr rfl (ga_ok a.o rfl)) (bm_list a.po) (e_cons (e_meth (vs:=[.int (hn b)]) (e_at a hi rfl rfl) ((meth_of hco).trans H.c10) rfl hlet) rfl) (append_at _ _ _ _ a.po hll)) (st_nil ⟨rfl,rfl⟩)
theorem run_wasking (hf:P.fns 59 = some f_World_asking) (n:Nat) (a:WAt s ks W x) (hi:i < W.nc):run P (n + 3) 59 [.ref (1,0),.int i] s = .ok (opV (W.c i).op) s:=by
 refine okr_eq (okr_run hf rfl ?_)
 refine st_expr (e_meth (vs:=[.int i]) rfl ((meth_of a.o).trans H.m13) rfl (need_caller H n a hi)) ?_
 exact st_ret (e_meth (e_at a hi rfl rfl) ((meth_of (a.co i hi)).trans H.c11) rfl (run_casking H (n + 1) a hi)) ⟨rfl,rfl⟩
theorem run_wletters (hf:P.fns 47 = some f_World_letters) (n:Nat) (a:WAt s ks W x):run P (n + 1) 47 [.ref (1,0)] s = .ok (.ref (11,s.cnt 11)) (s.new 11 (.list (W.post.map letV))) :=
 okr_eq (okr_run hf rfl (st_ret (e_listM (e_attr rfl (ga_ok a.o rfl)) (seq_ref a.po)) ⟨rfl,rfl⟩))
theorem run_wledger (hf:P.fns 58 = some f_World_ledger) (n:Nat) (a:WAt s ks W x):run P (n + 1) 58 [.ref (1,0)] s = .ok (.ref (12,s.cnt 12)) (s.new 12 (.list (W.rows.map lrowV))) :=
 okr_eq (okr_run hf rfl (st_ret (e_listM (e_attr rfl (ga_ok a.o rfl)) (seq_ref a.ro)) ⟨rfl,rfl⟩))
omit H
theorem pop_at (s:MS) (r:Lbl) (l:List V) (p:Nat) (h:s.heap r = some (.list l)) (hp:p < l.length):bmeth .pop (.ref r) [.int p] s = .ok l[p] (s.put r (.list (l.eraseIdx p))):=by
 show (match listAt (.ref r) s with | some q=>(match idx (p:Int) q.2.length with | some j=>(match q.2[j]? with | some v=>Res.ok v (s.put q.1 (.list (q.2.eraseIdx j))) | none=>.stuck) | none=>.stuck) | none=>.stuck) = _
 rw [list_at h]
 show (match idx (p:Int) l.length with | some j=>(match l[j]? with | some v=>Res.ok v (s.put r (.list (l.eraseIdx j))) | none=>.stuck) | none=>.stuck) = _
 rw [idx_ok (by lia) (by lia)]
 show (match l[p]? with | some v=>Res.ok v (s.put r (.list (l.eraseIdx p))) | none=>.stuck) = _
 rw [List.getElem?_eq_getElem hp]
theorem post_at {p:Nat} (hp:p < W.post.length):(W.post.map letV)[p]'(by rw [List.length_map]; exact hp) = letV W.post[p]:=List.getElem_map ..
theorem map_erase {α:Type} (f:α → V):∀ (l:List α) (p:Nat),(l.map f).eraseIdx p = (l.eraseIdx p).map f
 | [],_=>rfl
 | _ :: _,0=>rfl
 | a :: l,p + 1=>congrArg (f a :: ·) (map_erase f l p)
theorem WAt.pop (a:WAt s ks W x) (p:Nat):WAt (s.put (9,0) (.list ((W.post.map letV).eraseIdx p))) ks { W with post:=W.post.eraseIdx p } x:=by
 rw [map_erase]; exact a.setPost _
noncomputable def toHouse (b:Bool):Letter → Prop
 | .call h _ _ _ _=>h = hn b
 | .parcel h _ _ _ _=>h = hn b
 | .taken h _ _=>h = hn b
 | .answer _ _ _=>False
theorem house_of {b:Bool} {L:Letter} (hL:toHouse b L) (s:MS):getItem (letV L) (.int 1) s = .ok (.int (hn b)) s:=by
 cases L with
 | answer=>exact hL.elim
 | call=>rw [← show _ = hn b from hL]; rfl
 | parcel=>rw [← show _ = hn b from hL]; rfl
 | taken=>rw [← show _ = hn b from hL]; rfl
theorem no_answer {b:Bool} {L:Letter} (hL:toHouse b L) {C:Calls} {l0:V} (s:MS):ev P C (.cmp (.sub (.loc 1) (.int 0)) .eq (.str [97,110,115,119,101,114])) [some l0,some (letV L)] s = .ok (.bool false) s:=by
 cases L with
 | answer=>exact hL.elim
 | call=>rfl
 | parcel=>rfl
 | taken=>rfl
theorem nwp_hf {u:MS} {j:Nat} {y:HIx} (f:Fr (HF j y) s u):Fr NWp s u:=f.mono fun l q=>by
 rcases q with rfl | rfl | rfl | rfl | rfl
 ·exact of_decide_eq_true (p:=2 < 11) rfl
 ·exact of_decide_eq_true (p:=4 < 11) rfl
 ·exact of_decide_eq_true (p:=5 < 11) rfl
 ·exact of_decide_eq_true (p:=6 < 11) rfl
 ·exact of_decide_eq_true (p:=7 < 11) rfl
theorem nwp_at {u:MS} {j:Nat} (f:Fr (At1 (2,j)) s u):Fr NWp s u:=f.mono fun l q=>by
 rw [show l = (2,j) from q]; exact of_decide_eq_true (p:=2 < 11) rfl
include H
theorem run_brought (HP:HouseP P) (n:Nat) (a:WAt s ks W x) {b:Bool} {L:Letter} (hL:toHouse b L) (z:HZ (W.h b)) (km:KOk (W.h b).known) (hk:LOk (W.h b) L) :
  OkR (run P (n + 4) 48 [.ref (1,0),letV L] s) fun v u=>v = .none ∧ WAt u ks { W with h:=upd W.h b ((W.h b).came L) } x ∧ Fr NWp s u:=by
 refine okr_run H.brou rfl (st_if (t:=false) (no_answer hL s) ?_)
 refine st_exprQ (e_methQ (vs:=[letV L]) (e_hat a rfl (e_sub (x:=letV L) (y:=.int 1) rfl rfl (house_of hL s))) ((meth_of (a.hh.at_ b).o).trans HP.mcame) rfl (run_came HP n (a.hh.at_ b) z km L hk)) ?_
 rintro v u ⟨rfl,h1,h2⟩
 exact st_next (st_nil ⟨rfl,a.houses (ho_hf h2) (a.hh.deed h1 h2),nwp_hf h2⟩)
theorem run_lose (hf:P.fns 51 = some f_World_lose) (n:Nat) (a:WAt s ks W x) {p:Nat} (hp:p < W.post.length) :
  ∃ u,run P (n + 3) 51 [.ref (1,0),.int p] s = .ok .none u ∧ WAt u ks { W with post:=W.post.eraseIdx p } x ∧ Fr NWp s u:=by
 have hp':p < (W.post.map letV).length:=by rw [List.length_map]; exact hp
 refine ⟨_,okr_eq (okr_run hf rfl ?_),a.pop p,nwp_put (of_decide_eq_true (p:=9 < 11) rfl) _⟩
 refine st_expr (e_meth (vs:=[.int p]) rfl ((meth_of a.o).trans H.m16) rfl (need_place H n a hp)) ?_
 exact st_expr (e_bm (x:=.ref (9,0)) (vs:=[.int p]) (e_attr rfl (ga_ok a.o rfl)) (bm_list a.po) rfl (pop_at s (9,0) _ p a.po hp')) (st_nil ⟨rfl,rfl⟩)
theorem run_wsleep (HP:HouseP P) (hs:P.fns 28 = some f_House_sleep) (hm:P.meths 1 7 = some 28) (hf:P.fns 56 = some f_World_sleep) (n:Nat) (a:WAt s ks W x) (b:Bool) (z:HZ (W.h b)) :
  OkR (run P (n + 3) 56 [.ref (1,0),.int (hn b)] s) fun v u=>v = .none ∧ (∃ x',WAt u ks { W with h:=upd W.h b (W.h b).sleep } x') ∧ Fr NWp s u:=by
 refine okr_run hf rfl ?_
 refine st_expr (e_meth (vs:=[.int (hn b)]) rfl ((meth_of a.o).trans H.m14) rfl (need_house H n b s)) ?_
 refine st_exprQ (e_methQ (vs:=[]) (e_hat a rfl rfl) ((meth_of (a.hh.at_ b).o).trans hm) rfl (run_sleep HP hs (n + 1) (a.hh.at_ b) z)) ?_
 rintro v u ⟨rfl,h1,h2⟩
 exact st_nil ⟨rfl,⟨_,a.houses (ho_at h2) (a.hh.slept h1 h2)⟩,nwp_at h2⟩
end
end Mine
end
section
namespace Mine
section
variable {P:Prog} (H:WorldP P) {n:Nat} {s:MS} {ks:List Key}
set_option genCtorIdx false in
structure KeyFine (k:Key):Prop where
 pos:1 ≤ k.length
 eig:k.length ≤ 8
 abc:∀ c ∈ k,97 ≤ c ∧ c ≤ 122
theorem abc_all:∀ i:Fin 26,abc.contains (97 + i.1) = true:=by decide
theorem abc_mem {c:Nat} (h:97 ≤ c ∧ c ≤ 122):c ∈ abc:=by
 have:=abc_all ⟨c - 97,by omega⟩
 rw [show 97 + (⟨c - 97,by omega⟩:Fin 26).1 = c from by show 97 + (c - 97) = c; omega] at this
 exact List.contains_iff_mem.1 this
theorem all_asc {k:Key} (h:∀ c ∈ k,97 ≤ c ∧ c ≤ 122):k.all (fun c=>decide (c < 128)) = true:=List.all_eq_true.2 fun c hc=>decide_eq_true (by have:=h c hc; lia)
theorem run_is_key (hf:P.fns 4 = some f_is_key) (n:Nat) {k:Key} (h:KeyFine k) (s:MS):run P (n + 1) 4 [.str k] s = .ok (.bool true) s:=by
 have hp:=h.pos
 have he:=h.eig
 refine okr_eq (okr_run hf rfl ?_)
 have hl:ev P (run P n) (.prim .len [.loc 0]) [some (.str k),none] s = .ok (.int k.length) s:=e_prim (vs:=[.str k]) rfl (if_pos (by show _ ≤ 16777216; lia))
 refine st_if (t:=false) (s':=s) (e_orF rfl (e_or1 (e_not (t:=true) (e_rngL (x:=1) (y:=k.length) (z:=8) rfl hl rfl (by lia) (by lia))))) (st_next ?_)
 refine st_for (v:=.str k) (s':=s) (xs:=k.map fun c=>.str [c]) rfl (if_pos (all_asc h.abc)) rfl (okr_for (fun rem l u=>u = s ∧ (∀ v ∈ rem,∃ c,v = V.str [c] ∧ c ∈ abc) ∧ ∃ a,l = [some (.str k),a]) ?_ ?_ _ _ _ ⟨rfl,fun v hv=>?_,_,rfl⟩)
 ·rintro v rem l u ⟨rfl,hv,a,rfl⟩
  obtain ⟨c,rfl,hc⟩:=hv v (List.mem_cons_self ..)
  refine ⟨rfl,?_⟩
  show OkR (exs P _ _ _ [some (.str k),some (.str [c])] u) _
  exact st_if (t:=false) (congrArg (fun q=>Res.ok (V.bool (!q)) u) (decide_eq_true hc)) (st_next (st_nil ⟨rfl,fun v hv'=>hv v (List.mem_cons_of_mem _ hv'),_,rfl⟩))
 ·rintro l u ⟨rfl,-,a,rfl⟩
  refine ⟨rfl,?_⟩
  rw [seqQ_next]
  exact st_ret rfl ⟨rfl,rfl⟩
 ·obtain ⟨c,hc,rfl⟩:=memb_map hv
  exact ⟨c,rfl,abc_mem (h.abc c hc)⟩
theorem vin_none {key:Key} (s:MS):∀ {ks:List Key},key ∉ ks → vin s (.str key) (ks.map .str) = some false
 | [],_=>rfl
 | k :: ks,h=>by
  show (match some (decide (k = key)),vin s (.str key) (ks.map .str) with | some p,some q=>some (p || q) | _,_=>none) = _
  have e:¬ k = key:=fun q=>h (by rw [q]; exact List.mem_cons_self ..)
  rw [vin_none s fun q=>h (List.mem_cons_of_mem _ q),decide_eq_false e]; rfl
theorem sl_take (l:List V) (i:Nat) (s:MS):getSlice (.lst l) none (some (.int i)) s = .ok (.lst (l.take i)) s:=by
 show (match some 0,(if (0:Int) ≤ i then some (i:Int).toNat else none) with | some i,some j=>Res.ok (V.lst ((l.take j).drop i)) s | _,_=>.stuck) = _
 rw [if_pos (Int.natCast_nonneg i)]; rfl
theorem nodup_take {key:Key}:∀ {ks:List Key} {i:Nat},ks.Nodup → ks[i]? = some key → key ∉ ks.take i
 | [],i,_,h=>by simp at h
 | a :: ks,0,_,_=>by rw [List.take_zero]; exact List.not_mem_nil
 | a :: ks,i + 1,nd,h=>by
  rw [List.nodup_cons] at nd
  rw [List.getElem?_cons_succ] at h
  rw [List.take_succ_cons]
  intro q
  rcases List.mem_cons.1 q with e | q
  ·exact nd.1 (e ▸ List.mem_of_getElem? h)
  ·exact nodup_take nd.2 h q
set_option genCtorIdx false in
structure KeysFine (ks:List Key):Prop where
 pos:1 ≤ ks.length
 six:ks.length ≤ 6
 nd:ks.Nodup
 all:∀ k ∈ ks,KeyFine k
include H
theorem run_need_world {xc:Nat} (hk:P.fns 4 = some f_is_key) (hf:P.fns 5 = some (f_need_world xc)) (n:Nat) (K:KeysFine ks) {nc:Nat} (h1:1 ≤ nc) (h6:nc ≤ 6) (s:MS):run P (n + 2) 5 [.lst (ks.map .str),.int nc] s = .ok .none s:=by
 have hp:=K.pos
 have h6':=K.six
 have hw:=run_whole H n nc s
 refine okr_eq (okr_run hf rfl ?_)
 have hl:(ks.map V.str).length = ks.length:=List.length_map ..
 refine st_if (t:=false) (s':=s) (e_orF rfl (e_or1 (e_not (t:=true) (e_rngL (x:=1) (y:=(ks.map V.str).length) (z:=6) rfl rfl rfl (by lia) (by lia))))) (st_next ?_)
 refine st_for (v:=.int (ks.map V.str).length) (s':=s) (xs:=(List.range (ks.map V.str).length).map fun (i:Nat)=>.int i) rfl (items_range s _ (by lia) (by lia)) rfl (okr_for (fun rem l u=>u = s ∧ (∀ v ∈ rem,∃ i:Nat,v = V.int i ∧ i < ks.length) ∧ ∃ a,l = [some (.lst (ks.map .str)),some (.int nc),a]) ?_ ?_ _ _ _ ⟨rfl,fun v hv=>?_,_,rfl⟩)
 ·rintro v rem l u ⟨rfl,hv,a,rfl⟩
  obtain ⟨i,rfl,hi⟩:=hv v (List.mem_cons_self ..)
  refine ⟨rfl,?_⟩
  show OkR (exs P _ _ _ [some (.lst (ks.map .str)),some (.int nc),some (.int i)] u) _
  have hi':i < (ks.map V.str).length:=by rw [hl]; exact hi
  have e1:=i_seq (s:=u) (a:=.lst (ks.map .str)) (k:=true) rfl i hi'
  rw [show (ks.map V.str)[i] = V.str ks[i] from List.getElem_map ..] at e1
  have e2:ev P (run P (n + 1)) (.sub (.loc 0) (.loc 2)) [some (.lst (ks.map .str)),some (.int nc),some (.int i)] u = .ok (.str ks[i]) u:=e_sub rfl rfl e1
  refine st_if (t:=false) (s':=u) (e_orF (e_not (t:=true) (e_call (e_cons e2 rfl) (run_is_key hk n (K.all _ (List.getElem_mem _)) u))) (e_or1 (e_cmp e2 (e_slice (x:=.lst (ks.map .str)) (y:=none) (z:=some (.int i)) rfl rfl rfl (sl_take _ i u)) ?_))) (st_next (st_nil ⟨rfl,fun v hv'=>hv v (List.mem_cons_of_mem _ hv'),_,rfl⟩))
  show okB u (vin u (.str ks[i]) ((ks.map .str).take i)) = _
  rw [← List.map_take,vin_none u (nodup_take K.nd (List.getElem?_eq_getElem hi))]; rfl
 ·rintro l u ⟨rfl,-,a,rfl⟩
  refine ⟨rfl,?_⟩
  rw [seqQ_next]
  exact st_if (t:=false) (s':=u) (e_orF (e_not (t:=true) (e_call (vs:=[.int nc]) rfl hw)) (e_or1 (e_not (t:=true) (e_rngL (x:=1) (y:=nc) (z:=6) rfl rfl rfl (by lia) (by lia))))) (st_next (st_nil ⟨rfl,rfl⟩))
 ·obtain ⟨i,hi,rfl⟩:=memb_map hv
  rw [List.mem_range,hl] at hi
  exact ⟨i,rfl,hi⟩
omit H
theorem okr_compR {C:Calls} {s₀:MS} {nc slot:Nat} {e:E} {l:Loc} (f:Nat → V) (I:Nat → MS → Prop) (hz:nc ≤ 1000)
  (he:∀ j s,j < nc → I j s → OkR (ev P C e (l.set slot (some (.int j))) s) fun v t=>v = f j ∧ I (j + 1) t) :
  ∀ (m j:Nat) (s:MS),j + m = nc → I j s → OkR (compLoop s₀ true (.int nc) slot none (ev P C e) l ((List.range j).map f) ((List.range' j m).map fun (i:Nat)=>V.int i) s) fun vs t=>vs = (List.range nc).map f ∧ I nc t
 | 0,j,s,hj,h=>by
  have hj:j = nc:=hj
  subst hj
  rw [show (List.range' j 0).map (fun (i:Nat)=>V.int i) = [] from rfl,compLoop_nil]
  exact ⟨rfl,h⟩
 | m + 1,j,s,hj,h=>by
  rw [List.range'_succ,List.map_cons,compLoop_cons]
  show OkR (Res.bind (ev P C e (l.set slot (some (.int j))) s) _) _
  obtain ⟨v,t,e1,rfl,h1⟩:=okr_elim (he j s (by lia) h)
  rw [e1]
  show OkR (if ((List.range j).map f).length < sizeMax then _ else _) _
  rw [if_pos (by rw [List.length_map,List.length_range]; show _ < 16777216; lia)]
  have ih:=okr_compR (s₀:=s₀) f I hz he m (j + 1) t (by lia) h1
  rw [List.range_succ,List.map_append] at ih
  exact ih
noncomputable def c0:CS:=⟨0,none,[]⟩
theorem fr_own {F:Lbl → Prop} {s':MS} (a:Fr F s s') {l:Lbl} (h:s.cnt l.1 ≤ l.2) (o:MObj):Fr F s (s'.put l o) :=
 ⟨fun x hx n=>(put_ne fun (e:x = l)=>by rw [e] at hx; lia).trans (a.1 x hx n),a.2⟩
theorem make_caller (hin:P.inits 2 = some (3,10)) (hf:P.fns 10 = some f_Caller_init) (n:Nat) {i:Nat} (h3:s.cnt 3 = i) (h8:s.cnt 8 = i) :
  ∃ u,makeInst P (run P (n + 1)) 2 [.int i] s = .ok (.ref (3,i)) u ∧ u.heap (3,i) = some (cObj i c0) ∧ u.heap (8,i) = some (.list []) ∧ Fr (fun _=>False) s u ∧ u.cnt 3 = i + 1 ∧ u.cnt 8 = i + 1 ∧ ∀ k,k ≠ 3 → k ≠ 8 → u.cnt k = s.cnt k:=by
 subst h3
 have q0:(s.new 3 (.inst 2 [])).heap (3,s.cnt 3) = some (.inst 2 []):=new_self _ _ _
 have f0:Fr (fun _=>False) s (s.new 3 (.inst 2 [])):=(Fr.refl _ _).new _ _
 have c3:(s.new 3 (.inst 2 [])).cnt 3 = s.cnt 3 + 1:=rfl
 have ck:∀ k,k ≠ 3 → (s.new 3 (.inst 2 [])).cnt k = s.cnt k:=fun k hk=>if_neg hk
 have c8:=(ck 8 (by decide)).trans h8
 have ge:s.cnt 3 ≤ s.cnt 3:=Nat.le_refl _
 have e:∃ u,run P (n + 1) 10 [.ref (3,s.cnt 3),.int (s.cnt 3)] (s.new 3 (.inst 2 [])) = .ok .none u ∧ u.heap (3,s.cnt 3) = some (cObj (s.cnt 3) c0) ∧ u.heap (8,s.cnt 3) = some (.list []) ∧ Fr (fun _=>False) s u ∧ u.cnt 3 = s.cnt 3 + 1 ∧ u.cnt 8 = s.cnt 3 + 1 ∧ ∀ k,k ≠ 3 → k ≠ 8 → u.cnt k = s.cnt k:=by
  generalize s.new 3 (.inst 2 []) = t at q0 f0 c3 ck c8
  have q1:(t.put (3,s.cnt 3) (.inst 2 [(0,.int (s.cnt 3))])).heap (3,s.cnt 3) = some (.inst 2 [(0,.int (s.cnt 3))]):=put_self _ _ _
  have f1:=fr_own (l:=(3,s.cnt 3)) f0 ge (.inst 2 [(0,.int (s.cnt 3))])
  have q2:((t.put (3,s.cnt 3) (.inst 2 [(0,.int (s.cnt 3))])).put (3,s.cnt 3) (.inst 2 [(0,.int (s.cnt 3)),(1,.int 0)])).heap (3,s.cnt 3) = some (.inst 2 [(0,.int (s.cnt 3)),(1,.int 0)]):=put_self _ _ _
  have f2:=fr_own (l:=(3,s.cnt 3)) f1 ge (.inst 2 [(0,.int (s.cnt 3)),(1,.int 0)])
  have q3:(((t.put (3,s.cnt 3) (.inst 2 [(0,.int (s.cnt 3))])).put (3,s.cnt 3) (.inst 2 [(0,.int (s.cnt 3)),(1,.int 0)])).put (3,s.cnt 3) (.inst 2 [(0,.int (s.cnt 3)),(1,.int 0),(2,.none)])).heap (3,s.cnt 3) = some (.inst 2 [(0,.int (s.cnt 3)),(1,.int 0),(2,.none)]):=put_self _ _ _
  have f3:=fr_own (l:=(3,s.cnt 3)) f2 ge (.inst 2 [(0,.int (s.cnt 3)),(1,.int 0),(2,.none)])
  have k3:(((t.put (3,s.cnt 3) (.inst 2 [(0,.int (s.cnt 3))])).put (3,s.cnt 3) (.inst 2 [(0,.int (s.cnt 3)),(1,.int 0)])).put (3,s.cnt 3) (.inst 2 [(0,.int (s.cnt 3)),(1,.int 0),(2,.none)])).cnt = t.cnt:=rfl
  refine ⟨((((t.put (3,s.cnt 3) (.inst 2 [(0,.int (s.cnt 3))])).put (3,s.cnt 3) (.inst 2 [(0,.int (s.cnt 3)),(1,.int 0)])).put (3,s.cnt 3) (.inst 2 [(0,.int (s.cnt 3)),(1,.int 0),(2,.none)])).new 8 (.list [])).put (3,s.cnt 3) (cObj (s.cnt 3) c0),okr_eq (okr_run hf rfl ?_),put_self _ _ _,?_,fr_own (f3.new 8 _) ge _,c3,congrArg (· + 1) c8,fun k h1 h2=>(if_neg h2).trans (ck k h1)⟩
  ·refine st_setattr (v:=.int (s.cnt 3)) rfl rfl (sa_ok 0 _ q0 rfl) (st_setattr (v:=.int 0) rfl rfl (sa_ok 1 _ q1 rfl) (st_setattr (v:=.none) rfl rfl (sa_ok 2 _ q2 rfl) ?_))
   refine st_setattr (v:=.ref (8,t.cnt 8)) (s':=((((t.put (3,s.cnt 3) (.inst 2 [(0,.int (s.cnt 3))])).put (3,s.cnt 3) (.inst 2 [(0,.int (s.cnt 3)),(1,.int 0)])).put (3,s.cnt 3) (.inst 2 [(0,.int (s.cnt 3)),(1,.int 0),(2,.none)])).new 8 (.list [])).put (3,s.cnt 3) (cObj (s.cnt 3) c0)) rfl rfl ?_ (st_nil ⟨rfl,rfl⟩)
   refine (sa_ok 3 _ ((new_ne (kind_ne (by decide))).trans q3) rfl).trans ?_
   rw [c8]; rfl
  ·refine (put_ne (kind_ne (by decide))).trans ?_
   rw [← c8]; exact new_self _ 8 _
 obtain ⟨u,e1,e2⟩:=e
 refine ⟨u,?_,e2⟩
 rw [makeInst,hin]
 show Res.bind (run P (n + 1) 10 [.ref (3,s.cnt 3),.int (s.cnt 3)] (s.new 3 (.inst 2 []))) _ = _
 rw [e1]; rfl
noncomputable def W0 (ks:List Key) (nc:Nat):WS:=⟨nc,fun b=>HS.new (hn b) ks,fun _=>c0,[],[]⟩
set_option genCtorIdx false in
structure CI (s:MS) (j:Nat) (u:MS):Prop where
 c3:u.cnt 3 = j
 c8:u.cnt 8 = j
 co:∀ i,i < j → u.heap (3,i) = some (cObj i c0)
 cl:∀ i,i < j → u.heap (8,i) = some (.list [])
 fr:Fr (fun _=>False) s u
 ck:∀ k,k ≠ 3 → k ≠ 8 → u.cnt k = s.cnt k
theorem CI.next {u v:MS} {j:Nat} (a:CI s j u) (h1:v.heap (3,j) = some (cObj j c0)) (h2:v.heap (8,j) = some (.list [])) (f:Fr (fun _=>False) u v) (h3:v.cnt 3 = j + 1) (h8:v.cnt 8 = j + 1) (hk:∀ k,k ≠ 3 → k ≠ 8 → v.cnt k = u.cnt k):CI s (j + 1) v:=by
 refine ⟨h3,h8,fun i hi=>?_,fun i hi=>?_,a.fr.trans f,fun k q1 q2=>(hk k q1 q2).trans (a.ck k q1 q2)⟩
 ·by_cases e:i = j
  ·rw [e]; exact h1
  ·exact (f.1 (3,i) (by show i < u.cnt 3; rw [a.c3]; lia) fun q=>q).trans (a.co i (by lia))
 ·by_cases e:i = j
  ·rw [e]; exact h2
  ·exact (f.1 (8,i) (by show i < u.cnt 8; rw [a.c8]; lia) fun q=>q).trans (a.cl i (by lia))
theorem range_range' (n:Nat):List.range n = List.range' 0 n:=List.range_eq_range'
include H
theorem make_world {xc:Nat} (HP:HouseP P) (i0:P.inits 0 = some (1,40)) (i1:P.inits 1 = some (2,20)) (i2:P.inits 2 = some (3,10)) (hci:P.fns 10 = some f_Caller_init) (hk:P.fns 4 = some f_is_key) (hnw:P.fns 5 = some (f_need_world xc)) (hf:P.fns 40 = some f_World_init)
  (n:Nat) (K:KeysFine ks) {nc:Nat} (h1:1 ≤ nc) (h6:nc ≤ 6) (hc:∀ k,k < 11 → s.cnt k = 0) :
  OkR (makeInst P (run P (n + 3)) 0 [.lst (ks.map .str),.int nc] s) fun v u=>v = .ref (1,0) ∧ (∃ x,WAt u ks (W0 ks nc) x) ∧ Fr (fun _=>False) s u ∧ ∀ k,10 < k → u.cnt k = s.cnt k:=by
 have g1:=hc 1 (by decide)
 have q0:(s.new 1 (.inst 0 [])).heap (1,0) = some (.inst 0 []):=by rw [← g1]; exact new_self _ 1 _
 have f0:Fr (fun _=>False) s (s.new 1 (.inst 0 [])):=(Fr.refl _ _).new _ _
 have b1:(s.new 1 (.inst 0 [])).cnt 1 = 1:=by rw [cnt_self,g1]
 have bk:∀ k,k ≠ 1 → (s.new 1 (.inst 0 [])).cnt k = s.cnt k:=fun k hk=>if_neg hk
 rw [makeInst,i0]
 show OkR (Res.bind (run P (n + 3) 40 [.ref (1,s.cnt 1),.lst (ks.map .str),.int nc] (s.new 1 (.inst 0 []))) _) _
 rw [g1,okr_bind]
 have ge:s.cnt 1 ≤ 0:=Nat.le_of_eq g1
 generalize s.new 1 (.inst 0 []) = t at q0 f0 b1 bk
 suffices h:OkR (run P (n + 3) 40 [.ref (1,0),.lst (ks.map .str),.int nc] t) fun v u=>v = .none ∧ (∃ x,WAt u ks (W0 ks nc) x) ∧ Fr (fun _=>False) s u ∧ ∀ k,10 < k → u.cnt k = s.cnt k from
  okr_mono h fun v u q=>by obtain ⟨rfl,q⟩:=q; exact ⟨rfl,q⟩
 have hn6:ks.length < 1000:=by have:=K.six; lia
 refine okr_run hf rfl ?_
 refine st_expr (e_call (vs:=[.lst (ks.map .str),.int nc]) rfl (run_need_world H hk hnw n K h1 h6 t)) ?_
 refine st_setattr (v:=.lst (ks.map .str)) (s':=t.put (1,0) (.inst 0 [(8,.lst (ks.map .str))])) rfl rfl (sa_ok 8 _ q0 rfl) ?_
 have q1:(t.put (1,0) (.inst 0 [(8,.lst (ks.map .str))])).heap (1,0) = some (.inst 0 [(8,.lst (ks.map .str))]):=put_self _ _ _
 have f1:=fr_own (l:=(1,0)) f0 ge (.inst 0 [(8,.lst (ks.map .str))])
 have d1:(t.put (1,0) (.inst 0 [(8,.lst (ks.map .str))])).cnt = t.cnt:=rfl
 generalize t.put (1,0) (.inst 0 [(8,.lst (ks.map .str))]) = t1 at q1 f1 d1
 have k1:∀ k,k ≠ 1 → k < 11 → t1.cnt k = 0:=fun k hk h=>(congrFun d1 k).trans ((bk k hk).trans (hc k h))
 obtain ⟨v,s1,e1,rfl,x1,-,hH1,u1,c1,m1⟩:=okr_elim (make_house HP i1 (n + 1) (s:=t1) 0 (.lst (ks.map .str)) ks (.inl rfl) hn6)
 obtain ⟨v,s2,e2,rfl,x2,hx2,hH2,u2,c2,m2⟩:=okr_elim (make_house HP i1 (n + 1) (s:=s1) 1 (.lst (ks.map .str)) ks (.inl rfl) hn6)
 have z2:=k1 2 (by decide) (by decide)
 rw [c1] at e2 hH2 c2
 rw [z2] at e1 e2 hH1 hH2 c2
 have f12:=u1.trans u2
 have l1:0 < t1.cnt 1:=by rw [congrFun d1 1,b1]; exact Nat.one_pos
 have q2:s2.heap (1,0) = some (.inst 0 [(8,.lst (ks.map .str))]):=(f12.1 (1,0) l1 fun q=>q).trans q1
 have m3:s2.cnt 3 = 0:=(m2 3 (.inr rfl)).trans ((m1 3 (.inr rfl)).trans (k1 3 (by decide) (by decide)))
 have m8:∀ k,7 < k → k < 11 → s2.cnt k = 0:=fun k h h'=>(m2 k (.inl h)).trans ((m1 k (.inl h)).trans (k1 k (by lia) h'))
 have l12:0 < s2.cnt 1:=Nat.lt_of_lt_of_le l1 (f12.2 1)
 have hh2:HH s2 (fun b=>cond b x2 x1) (fun b=>HS.new (hn b) ks):=by
  refine ⟨fun b=>?_,?_,?_,?_,?_⟩
  ·cases b
   ·exact hH1.step u2 fun _ _ q=>q
   ·exact hH2
  ·exact Nat.ne_of_lt (Nat.lt_of_lt_of_le hH1.ik hx2.1)
  ·exact Nat.ne_of_lt (Nat.lt_of_lt_of_le hH1.iw hx2.2.1)
  ·exact Nat.ne_of_lt (Nat.lt_of_lt_of_le hH1.il hx2.2.2.1)
  ·exact Nat.ne_of_lt (Nat.lt_of_lt_of_le hH1.ir hx2.2.2.2)
 refine st_setattr (v:=.lst [.ref (2,0),.ref (2,1)]) (s':=s2.put (1,0) (.inst 0 [(8,.lst (ks.map .str)),(9,.lst [.ref (2,0),.ref (2,1)])])) (e_lst (vs:=[.ref (2,0),.ref (2,1)]) (e_cons (v:=.ref (2,0)) (s1:=s1) (bind_eq (a:=[.int 0,.lst (ks.map .str)]) (s:=t1) rfl e1) (e_cons (v:=.ref (2,1)) (s1:=s2) (bind_eq (a:=[.int 1,.lst (ks.map .str)]) (s:=s1) rfl e2) rfl)) rfl) rfl (sa_ok 9 _ q2 rfl) ?_
 have q3:(s2.put (1,0) (.inst 0 [(8,.lst (ks.map .str)),(9,.lst [.ref (2,0),.ref (2,1)])])).heap (1,0) = some (.inst 0 [(8,.lst (ks.map .str)),(9,.lst [.ref (2,0),.ref (2,1)])]):=put_self _ _ _
 have f3:=fr_own (l:=(1,0)) (f1.trans f12) ge (.inst 0 [(8,.lst (ks.map .str)),(9,.lst [.ref (2,0),.ref (2,1)])])
 have hh3:=hh2.step (nh_put (l:=(1,0)) (of_decide_eq_true (p:=1 ≠ 2 ∧ 1 ≠ 4 ∧ 1 ≠ 5 ∧ 1 ≠ 6 ∧ 1 ≠ 7) rfl) (.inst 0 [(8,.lst (ks.map .str)),(9,.lst [.ref (2,0),.ref (2,1)])]))
 have d3:(s2.put (1,0) (.inst 0 [(8,.lst (ks.map .str)),(9,.lst [.ref (2,0),.ref (2,1)])])).cnt = s2.cnt:=rfl
 generalize s2.put (1,0) (.inst 0 [(8,.lst (ks.map .str)),(9,.lst [.ref (2,0),.ref (2,1)])]) = t3 at q3 f3 hh3 d3
 have ci0:CI t3 0 t3:=⟨(congrFun d3 3).trans m3,(congrFun d3 8).trans (m8 8 (by decide) (by decide)),fun i hi=>absurd hi (Nat.not_lt_zero i),fun i hi=>absurd hi (Nat.not_lt_zero i),.refl _ _,fun _ _ _=>rfl⟩
 have hcomp:=okr_compR (P:=P) (C:=run P (n + 2)) (s₀:=t3) (slot:=3) (e:=.new 2 [.loc 3]) (l:=[some (.ref (1,0)),some (.lst (ks.map .str)),some (.int nc),none]) (nc:=nc) (fun i=>.ref (3,i)) (CI t3) (by lia) (fun j u hj a=>by
  obtain ⟨v,r1,r2,r3,r4,r5,r6,r7⟩:=make_caller i2 hci (n + 1) a.c3 a.c8
  exact okr_of (bind_eq (a:=[.int j]) (s:=u) rfl r1) ⟨rfl,a.next r2 r3 r4 r5 r6 r7⟩) nc 0 t3 (Nat.zero_add nc) ci0
 obtain ⟨vs,t4,e4,rfl,ci⟩:=okr_elim hcomp
 have l13:0 < t3.cnt 1:=by rw [congrFun d3 1]; exact l12
 have q4:t4.heap (1,0) = some (.inst 0 [(8,.lst (ks.map .str)),(9,.lst [.ref (2,0),.ref (2,1)])]):=(ci.fr.1 (1,0) l13 fun q=>q).trans q3
 have f4:=f3.trans ci.fr
 have hh4:=hh3.step (ci.fr.mono fun _ q=>q.elim)
 have hit:itemsOf t3 true (.int nc) = some ((List.range' 0 nc).map fun (i:Nat)=>V.int i):=(items_range t3 nc (by lia) (by lia)).trans (by rw [Int.toNat_natCast,range_range'])
 refine st_setattr (v:=.lst (callersV nc)) (s':=t4.put (1,0) (.inst 0 [(8,.lst (ks.map .str)),(9,.lst [.ref (2,0),.ref (2,1)]),(10,.lst (callersV nc))])) (e_comp (src:=.int nc) rfl hit e4) rfl (sa_ok 10 _ q4 rfl) ?_
 have d9:t4.cnt 9 = 0:=(ci.ck 9 (by decide) (by decide)).trans ((congrFun d3 9).trans (m8 9 (by decide) (by decide)))
 have d10:t4.cnt 10 = 0:=(ci.ck 10 (by decide) (by decide)).trans ((congrFun d3 10).trans (m8 10 (by decide) (by decide)))
 have l14:0 < t4.cnt 1:=Nat.lt_of_lt_of_le l13 (ci.fr.2 1)
 have q5:((t4.put (1,0) (.inst 0 [(8,.lst (ks.map .str)),(9,.lst [.ref (2,0),.ref (2,1)]),(10,.lst (callersV nc))])).new 9 (.list [])).heap (1,0) = some (.inst 0 [(8,.lst (ks.map .str)),(9,.lst [.ref (2,0),.ref (2,1)]),(10,.lst (callersV nc))]):=(new_ne (kind_ne (by decide))).trans (put_self _ _ _)
 refine st_setattr (v:=.ref (9,t4.cnt 9)) (s':=((t4.put (1,0) (.inst 0 [(8,.lst (ks.map .str)),(9,.lst [.ref (2,0),.ref (2,1)]),(10,.lst (callersV nc))])).new 9 (.list [])).put (1,0) (.inst 0 [(8,.lst (ks.map .str)),(9,.lst [.ref (2,0),.ref (2,1)]),(10,.lst (callersV nc)),(11,.ref (9,t4.cnt 9))])) rfl rfl (sa_ok 11 _ q5 rfl) ?_
 have q6:((((t4.put (1,0) (.inst 0 [(8,.lst (ks.map .str)),(9,.lst [.ref (2,0),.ref (2,1)]),(10,.lst (callersV nc))])).new 9 (.list [])).put (1,0) (.inst 0 [(8,.lst (ks.map .str)),(9,.lst [.ref (2,0),.ref (2,1)]),(10,.lst (callersV nc)),(11,.ref (9,t4.cnt 9))])).new 10 (.list [])).heap (1,0) = some (.inst 0 [(8,.lst (ks.map .str)),(9,.lst [.ref (2,0),.ref (2,1)]),(10,.lst (callersV nc)),(11,.ref (9,t4.cnt 9))]):=(new_ne (kind_ne (by decide))).trans (put_self _ _ _)
 refine st_setattr (v:=.ref (10,t4.cnt 10)) (s':=((((t4.put (1,0) (.inst 0 [(8,.lst (ks.map .str)),(9,.lst [.ref (2,0),.ref (2,1)]),(10,.lst (callersV nc))])).new 9 (.list [])).put (1,0) (.inst 0 [(8,.lst (ks.map .str)),(9,.lst [.ref (2,0),.ref (2,1)]),(10,.lst (callersV nc)),(11,.ref (9,t4.cnt 9))])).new 10 (.list [])).put (1,0) (.inst 0 [(8,.lst (ks.map .str)),(9,.lst [.ref (2,0),.ref (2,1)]),(10,.lst (callersV nc)),(11,.ref (9,t4.cnt 9)),(12,.ref (10,t4.cnt 10))])) rfl rfl (sa_ok 12 _ q6 rfl) (st_nil ⟨rfl,⟨fun b=>cond b x2 x1,?_⟩,?_,fun k hk=>?_⟩)
 ·have g:∀ {l:Lbl} {o:MObj},t4.heap l = some o → l.1 ≠ 1 → l.1 ≠ 9 → l.1 ≠ 10 → (((((t4.put (1,0) (.inst 0 [(8,.lst (ks.map .str)),(9,.lst [.ref (2,0),.ref (2,1)]),(10,.lst (callersV nc))])).new 9 (.list [])).put (1,0) (.inst 0 [(8,.lst (ks.map .str)),(9,.lst [.ref (2,0),.ref (2,1)]),(10,.lst (callersV nc)),(11,.ref (9,t4.cnt 9))])).new 10 (.list [])).put (1,0) (.inst 0 [(8,.lst (ks.map .str)),(9,.lst [.ref (2,0),.ref (2,1)]),(10,.lst (callersV nc)),(11,.ref (9,t4.cnt 9)),(12,.ref (10,t4.cnt 10))])).heap l = some o :=
   fun e h1 h9 h10=>(put_ne fun q=>h1 (congrArg Prod.fst q)).trans ((new_ne fun q=>h10 (congrArg Prod.fst q)).trans ((put_ne fun q=>h1 (congrArg Prod.fst q)).trans ((new_ne fun q=>h9 (congrArg Prod.fst q)).trans ((put_ne fun q=>h1 (congrArg Prod.fst q)).trans e))))
  have fN:Fr NH t4 (((((t4.put (1,0) (.inst 0 [(8,.lst (ks.map .str)),(9,.lst [.ref (2,0),.ref (2,1)]),(10,.lst (callersV nc))])).new 9 (.list [])).put (1,0) (.inst 0 [(8,.lst (ks.map .str)),(9,.lst [.ref (2,0),.ref (2,1)]),(10,.lst (callersV nc)),(11,.ref (9,t4.cnt 9))])).new 10 (.list [])).put (1,0) (.inst 0 [(8,.lst (ks.map .str)),(9,.lst [.ref (2,0),.ref (2,1)]),(10,.lst (callersV nc)),(11,.ref (9,t4.cnt 9)),(12,.ref (10,t4.cnt 10))])) :=
   have nh:NH (1,0):=of_decide_eq_true (p:=1 ≠ 2 ∧ 1 ≠ 4 ∧ 1 ≠ 5 ∧ 1 ≠ 6 ∧ 1 ≠ 7) rfl
   (((((Fr.refl NH t4).put nh _).new 9 _).put nh _).new 10 _).put nh _
  have p9:(((((t4.put (1,0) (.inst 0 [(8,.lst (ks.map .str)),(9,.lst [.ref (2,0),.ref (2,1)]),(10,.lst (callersV nc))])).new 9 (.list [])).put (1,0) (.inst 0 [(8,.lst (ks.map .str)),(9,.lst [.ref (2,0),.ref (2,1)]),(10,.lst (callersV nc)),(11,.ref (9,t4.cnt 9))])).new 10 (.list [])).put (1,0) (.inst 0 [(8,.lst (ks.map .str)),(9,.lst [.ref (2,0),.ref (2,1)]),(10,.lst (callersV nc)),(11,.ref (9,t4.cnt 9)),(12,.ref (10,t4.cnt 10))])).heap (9,t4.cnt 9) = some (.list []):=(put_ne (kind_ne (by decide))).trans ((new_ne (kind_ne (by decide))).trans ((put_ne (kind_ne (by decide))).trans (new_self _ 9 _)))
  have p10:(((((t4.put (1,0) (.inst 0 [(8,.lst (ks.map .str)),(9,.lst [.ref (2,0),.ref (2,1)]),(10,.lst (callersV nc))])).new 9 (.list [])).put (1,0) (.inst 0 [(8,.lst (ks.map .str)),(9,.lst [.ref (2,0),.ref (2,1)]),(10,.lst (callersV nc)),(11,.ref (9,t4.cnt 9))])).new 10 (.list [])).put (1,0) (.inst 0 [(8,.lst (ks.map .str)),(9,.lst [.ref (2,0),.ref (2,1)]),(10,.lst (callersV nc)),(11,.ref (9,t4.cnt 9)),(12,.ref (10,t4.cnt 10))])).heap (10,t4.cnt 10) = some (.list []):=(put_ne (kind_ne (by decide))).trans (new_self _ 10 _)
  have o0:(((((t4.put (1,0) (.inst 0 [(8,.lst (ks.map .str)),(9,.lst [.ref (2,0),.ref (2,1)]),(10,.lst (callersV nc))])).new 9 (.list [])).put (1,0) (.inst 0 [(8,.lst (ks.map .str)),(9,.lst [.ref (2,0),.ref (2,1)]),(10,.lst (callersV nc)),(11,.ref (9,t4.cnt 9))])).new 10 (.list [])).put (1,0) (.inst 0 [(8,.lst (ks.map .str)),(9,.lst [.ref (2,0),.ref (2,1)]),(10,.lst (callersV nc)),(11,.ref (9,t4.cnt 9)),(12,.ref (10,t4.cnt 10))])).heap (1,0) = some (.inst 0 [(8,.lst (ks.map .str)),(9,.lst [.ref (2,0),.ref (2,1)]),(10,.lst (callersV nc)),(11,.ref (9,t4.cnt 9)),(12,.ref (10,t4.cnt 10))]):=put_self _ _ _
  have n9:(((((t4.put (1,0) (.inst 0 [(8,.lst (ks.map .str)),(9,.lst [.ref (2,0),.ref (2,1)]),(10,.lst (callersV nc))])).new 9 (.list [])).put (1,0) (.inst 0 [(8,.lst (ks.map .str)),(9,.lst [.ref (2,0),.ref (2,1)]),(10,.lst (callersV nc)),(11,.ref (9,t4.cnt 9))])).new 10 (.list [])).put (1,0) (.inst 0 [(8,.lst (ks.map .str)),(9,.lst [.ref (2,0),.ref (2,1)]),(10,.lst (callersV nc)),(11,.ref (9,t4.cnt 9)),(12,.ref (10,t4.cnt 10))])).cnt 9 = t4.cnt 9 + 1:=rfl
  have n10:(((((t4.put (1,0) (.inst 0 [(8,.lst (ks.map .str)),(9,.lst [.ref (2,0),.ref (2,1)]),(10,.lst (callersV nc))])).new 9 (.list [])).put (1,0) (.inst 0 [(8,.lst (ks.map .str)),(9,.lst [.ref (2,0),.ref (2,1)]),(10,.lst (callersV nc)),(11,.ref (9,t4.cnt 9))])).new 10 (.list [])).put (1,0) (.inst 0 [(8,.lst (ks.map .str)),(9,.lst [.ref (2,0),.ref (2,1)]),(10,.lst (callersV nc)),(11,.ref (9,t4.cnt 9)),(12,.ref (10,t4.cnt 10))])).cnt 10 = t4.cnt 10 + 1:=rfl
  generalize ((((t4.put (1,0) (.inst 0 [(8,.lst (ks.map .str)),(9,.lst [.ref (2,0),.ref (2,1)]),(10,.lst (callersV nc))])).new 9 (.list [])).put (1,0) (.inst 0 [(8,.lst (ks.map .str)),(9,.lst [.ref (2,0),.ref (2,1)]),(10,.lst (callersV nc)),(11,.ref (9,t4.cnt 9))])).new 10 (.list [])).put (1,0) (.inst 0 [(8,.lst (ks.map .str)),(9,.lst [.ref (2,0),.ref (2,1)]),(10,.lst (callersV nc)),(11,.ref (9,t4.cnt 9)),(12,.ref (10,t4.cnt 10))]) = t5 at g fN p9 p10 o0 n9 n10
  rw [d9] at p9 o0 n9
  rw [d10] at p10 o0 n10
  exact ⟨o0,hh4.step fN,fun i hi=>g (l:=(3,i)) (ci.co i hi) (of_decide_eq_true (p:=3 ≠ 1) rfl) (of_decide_eq_true (p:=3 ≠ 9) rfl) (of_decide_eq_true (p:=3 ≠ 10) rfl),fun i hi=>g (l:=(8,i)) (ci.cl i hi) (of_decide_eq_true (p:=8 ≠ 1) rfl) (of_decide_eq_true (p:=8 ≠ 9) rfl) (of_decide_eq_true (p:=8 ≠ 10) rfl),p9,p10,
   Nat.lt_of_lt_of_le l14 (fN.2 1),Nat.le_trans (Nat.le_of_eq ci.c3.symm) (fN.2 3),Nat.le_trans (Nat.le_of_eq ci.c8.symm) (fN.2 8),by rw [n9]; exact Nat.one_pos,by rw [n10]; exact Nat.one_pos⟩
 ·exact fr_own (l:=(1,0)) ((fr_own (l:=(1,0)) ((fr_own (l:=(1,0)) f4 ge _).new 9 _) ge _).new 10 _) ge _
 ·exact (if_neg (Nat.ne_of_gt hk)).trans ((if_neg (by lia:¬ k = 9)).trans ((ci.ck k (by lia) (by lia)).trans ((congrFun d3 k).trans ((m2 k (.inl (by lia))).trans ((m1 k (.inl (by lia))).trans ((congrFun d1 k).trans (bk k (by lia))))))))
omit H
noncomputable abbrev big:Int:=1000000000000000000000000000000
theorem e_big {C:Calls} {l:Loc} {a:E} {i:Int} (ha:ev P C a l s = .ok (.int i) s) (h1:-big ≤ i) (h2:i ≤ big) :
  ev P C (.not (.cmp2 (.neg (.gint "GREATEST" 1000000000000000000000000000000)) .le a .le (.gint "GREATEST" 1000000000000000000000000000000))) l s = .ok (.bool false) s :=
 e_not (t:=true) (e_rngL (x:=-big) (y:=i) (z:=big) rfl ha rfl h1 h2)
noncomputable def WOk:W → Prop
 | .get=>True
 | .set i=>-big ≤ i ∧ i ≤ big
 | .add i=>-big ≤ i ∧ i ≤ big
include H
theorem run_need {xc:Nat} (hf:P.fns 1 = some (f_need_wish xc)) (n:Nat) (w:W) (h:WOk w) (s:MS):run P (n + 2) 1 [wv w] s = .ok .none s:=by
 refine okr_eq (okr_run hf rfl ?_)
 cases w with
 | get=>exact st_if (t:=false) (s':=s) rfl (st_next (st_if (t:=true) (s':=s) rfl (st_ret0 ⟨rfl,rfl⟩)))
 | set i =>
  have hw:=run_whole H n i s
  exact st_if (t:=false) (s':=s) rfl (st_next (st_if (t:=false) (s':=s) rfl (st_next (st_if (t:=false) (s':=s) (e_orF rfl (e_orF rfl (e_or1 (e_not (t:=true) (e_call (vs:=[.int i]) rfl hw))))) (st_next (st_if (t:=false) (e_big rfl h.1 h.2) (st_next (st_nil ⟨rfl,rfl⟩))))))))
 | add i =>
  have hw:=run_whole H n i s
  exact st_if (t:=false) (s':=s) rfl (st_next (st_if (t:=false) (s':=s) rfl (st_next (st_if (t:=false) (s':=s) (e_orF rfl (e_orF rfl (e_or1 (e_not (t:=true) (e_call (vs:=[.int i]) rfl hw))))) (st_next (st_if (t:=false) (e_big rfl h.1 h.2) (st_next (st_nil ⟨rfl,rfl⟩))))))))
omit H
theorem big_eq:big = 1000000000000000000000000000000:=rfl
theorem wnum_ok (c:Int) (b:Bool):-big ≤ wnum c b ∧ wnum c b ≤ big:=by
 rw [big_eq]
 cases b with
 | true =>
  obtain ⟨h1,h2⟩:=fmod_range (c.fdiv 6) 2000000000000000000000000000001 (by decide)
  show _ ≤ _ - _ ∧ _ - _ ≤ _
  constructor <;> omega
 | false =>
  obtain ⟨h1,h2⟩:=fmod_range (c.fdiv 6) 7 (by decide)
  show _ ≤ _ - _ ∧ _ - _ ≤ _
  constructor <;> omega
theorem wish_ok (c:Int):WOk (wishOf c):=by
 unfold wishOf wpick
 split
 ·trivial
 ·split
  ·exact wnum_ok c _
  ·exact wnum_ok c _
theorem qwe_abc:∀ c ∈ qwe,97 ≤ c ∧ c ≤ 122:=by decide
theorem keysAt_fine {m z:Nat} (h6:m ≤ 6) (hz:z < 8) (a:Nat) (t:Int) (b:Bool):∀ k ∈ keysAt m z a t b,KeyFine k:=by
 have hl:(restOf z t).length = z:=rest_len z t
 have ha:=rest_abc z t
 cases b with
 | true =>
  intro k hk
  obtain ⟨i,hi,rfl⟩:=List.mem_map.1 hk
  have hi:=List.mem_range.1 hi
  have e:((restOf z t ++ qwe).take (i + 1)).length = i + 1:=by rw [List.length_take,List.length_append,hl]; show min (i + 1) (z + 8) = i + 1; lia
  exact ⟨by lia,by lia,fun c hc=>(List.mem_append.1 (List.mem_of_mem_take hc)).elim (ha c) (qwe_abc c)⟩
 | false =>
  intro k hk
  obtain ⟨i,hi,rfl⟩:=List.mem_map.1 hk
  have e:((restOf z t).take a ++ [letter (t + i)] ++ (restOf z t).drop a).length = z + 1:=by rw [List.length_append,List.length_append,List.length_take,List.length_drop,hl]; show min a z + 1 + (z - a) = z + 1; lia
  refine ⟨by lia,by lia,fun c hc=>?_⟩
  rcases List.mem_append.1 hc with hc | hc
  ·rcases List.mem_append.1 hc with hc | hc
   ·exact ha c (List.mem_of_mem_take hc)
   ·rw [List.mem_singleton.1 hc]; exact letter_abc _
  ·exact ha c (List.mem_of_mem_drop hc)
theorem keys_fine (c:Int):KeysFine (keysOf c):=by
 obtain ⟨h0,h1⟩:=fmod_range c 6 (by decide)
 obtain ⟨h2,h3⟩:=fmod_range (c.fdiv 6) 8 (by decide)
 have K:=keys_ok c
 exact ⟨K.pos,K.six,K.nd,keysAt_fine (by omega) (by omega) _ _ _⟩
theorem fmod_nat (k:Int) {N:Nat} (h:0 < N):∃ p:Nat,p < N ∧ k.fmod (N:Int) = p:=by
 obtain ⟨h1,h2⟩:=fmod_range k (N:Int) (by omega)
 exact ⟨(k.fmod (N:Int)).toNat,by omega,by omega⟩
end
end Mine
end
section
namespace Mine
noncomputable def f_Caller_came:Fn:=⟨3,["self","number","told"],[.ite (.and [.isC true (.attr (.loc 0) 2) .none,.cmp (.sub (.attr (.loc 0) 2) (.int 0)) .eq (.loc 1)]) [.expr (.bm .append (.attr (.loc 0) 3) [.tup [.loc 1,.loc 2]]),.setattr (.loc 0) 2 .none] []]⟩
noncomputable def f_World_home:Fn:=⟨2,["self","key","house"],[.expr (.meth (.loc 0) 15 [.loc 1]),.for_ (.inl (.loc 2)) false (.attr (.loc 0) 9) [.ite (.meth (.loc 2) 0 [.loc 1]) [.ret (some (.attr (.loc 2) 0))] []],.ret (some .none)]⟩
noncomputable def f_World_move (xc:Nat):Fn:=⟨2,["self","key","home"],[.assign 2 (.meth (.loc 0) 24 [.loc 1]),.ite (.isC false (.loc 2) .none) [.raise xc] [],.expr (.meth (.sub (.attr (.loc 0) 9) (.loc 2)) 5 [.loc 1])]⟩
noncomputable def f_World_write:Fn:=⟨2,["self","house","found"],[.expr (.meth (.loc 0) 14 [.loc 1]),.assign 2 (.meth (.sub (.attr (.loc 0) 9) (.loc 1)) 6 []),.expr (.bm .extend (.attr (.loc 0) 11) [.sub (.loc 2) (.int 0)]),.expr (.bm .extend (.attr (.loc 0) 12) [.sub (.loc 2) (.int 1)])]⟩
noncomputable def f_World_nudge:Fn:=⟨2,["self","house"],[.expr (.meth (.loc 0) 14 [.loc 1]),.expr (.bm .extend (.attr (.loc 0) 11) [.meth (.sub (.attr (.loc 0) 9) (.loc 1)) 8 []])]⟩
noncomputable def CS.came (c:CS) (n told:Int):CS:=match c.op with
 | some p=>if p.1 = n then ⟨c.begun,none,c.closed ++ [(n,told)]⟩ else c
 | none=>c
noncomputable def homeV (W:WS) (key:Key):V:=if (W.h false).has key then .int (W.h false).num else if (W.h true).has key then .int (W.h true).num else .none
section
variable {P:Prog} (H:WorldP P) {n:Nat} {s:MS} {ks:List Key} {W:WS} {x:Bool → HIx} {i:Nat}
theorem ext_at (s:MS) (r:Lbl) (l:List V) {v:V} {k:Bool} {l2:List V} (h:s.heap r = some (.list l)) (h2:seqOf s v = some (k,l2)) (hz:l.length + l2.length ≤ 16777216):bmeth .extend (.ref r) [v] s = .ok .none (s.put r (.list (l ++ l2))):=by
 show (match listAt (.ref r) s with | some p=>(match seqOf s v with | some q=>if p.2.length + q.2.length ≤ sizeMax then Res.ok V.none (s.put p.1 (.list (p.2 ++ q.2))) else .stuck | none=>.stuck) | none=>.stuck) = _
 rw [list_at h]
 show (match seqOf s v with | some q=>if l.length + q.2.length ≤ sizeMax then Res.ok V.none (s.put r (.list (l ++ q.2))) else .stuck | none=>.stuck) = _
 rw [h2]
 exact if_pos hz
theorem WAt.setRows (a:WAt s ks W x) (l:List LRow):WAt (s.put (10,0) (.list (l.map lrowV))) ks { W with rows:=l } x :=
 ⟨(put_ne (kind_ne (by decide))).trans a.o,a.hh.step (nh_put (l:=(10,0)) (of_decide_eq_true (p:=10 ≠ 2 ∧ 10 ≠ 4 ∧ 10 ≠ 5 ∧ 10 ≠ 6 ∧ 10 ≠ 7) rfl) _),fun i hi=>(put_ne (kind_ne (by decide))).trans (a.co i hi),fun i hi=>(put_ne (kind_ne (by decide))).trans (a.cl i hi),(put_ne (kind_ne (by decide))).trans a.po,put_self _ _ _,a.i1,a.i3,a.i8,a.i9,a.i10⟩
theorem WAt.setClosed (a:WAt s ks W x) (i:Nat) (c:CS) (h1:c.begun = (W.c i).begun) (h2:c.op = (W.c i).op):WAt (s.put (8,i) (.list (c.closed.map ansV))) ks { W with c:=updN W.c i c } x:=by
 refine ⟨(put_ne (kind_ne (by decide))).trans a.o,a.hh.step (nh_put (l:=(8,i)) (of_decide_eq_true (p:=8 ≠ 2 ∧ 8 ≠ 4 ∧ 8 ≠ 5 ∧ 8 ≠ 6 ∧ 8 ≠ 7) rfl) _),fun k hk=>?_,fun k hk=>?_,(put_ne (kind_ne (by decide))).trans a.po,(put_ne (kind_ne (by decide))).trans a.ro,a.i1,a.i3,a.i8,a.i9,a.i10⟩
 ·refine ((put_ne (kind_ne (by decide))).trans (a.co k hk)).trans ?_
  show some (cObj k (W.c k)) = some (cObj k (if k = i then c else W.c k))
  by_cases e:k = i
  ·rw [if_pos e,cObj,cObj,h1,h2,e]
  ·rw [if_neg e]
 ·show (s.put (8,i) (.list (c.closed.map ansV))).heap (8,k) = some (.list (List.map ansV (if k = i then c else W.c k).closed))
  by_cases e:k = i
  ·subst e; rw [if_pos rfl]; exact put_self _ _ _
  ·rw [if_neg e]; exact (put_ne fun q=>e (congrArg Prod.snd q)).trans (a.cl k hk)
theorem updN_updN (f:Nat → CS) (i:Nat) (a b:CS):updN (updN f i a) i b = updN f i b:=by
 funext k
 show (if k = i then _ else if k = i then _ else f k) = if k = i then _ else f k
 split <;> rfl
theorem updN_self (f:Nat → CS) (i:Nat):updN f i (f i) = f:=by
 funext k
 show (if k = i then f i else f k) = f k
 split
 ·rename_i e; rw [e]
 ·rfl
include H
theorem run_ccame (hf:P.fns 13 = some f_Caller_came) (n:Nat) (a:WAt s ks W x) (hi:i < W.nc) (num told:Int) (hz:(W.c i).closed.length < 16777000) :
  OkR (run P (n + 1) 13 [.ref (3,i),.int num,.int told] s) fun v u=>v = .none ∧ WAt u ks { W with c:=updN W.c i ((W.c i).came num told) } x ∧ Fr NWp s u:=by
 have ho:=a.co i hi
 have hcl:=a.cl i hi
 refine okr_run hf rfl ?_
 have eo:ev P (run P n) (.attr (.loc 0) 2) [some (.ref (3,i)),some (.int num),some (.int told)] s = .ok (opV (W.c i).op) s:=e_attr rfl (ga_ok ho rfl)
 cases hop:(W.c i).op with
 | none =>
  have e:(W.c i).came num told = W.c i:=by rw [CS.came,hop]
  rw [e,updN_self]
  rw [hop] at eo
  exact st_if (t:=false) (s':=s) (e_andF (e_isN (g:=true) (t:=true) eo (decide_eq_true rfl))) (st_next (st_nil ⟨rfl,a,.refl _ _⟩))
 | some p =>
  rw [hop] at eo
  have e0:ev P (run P n) (.cmp (.sub (.attr (.loc 0) 2) (.int 0)) .eq (.loc 1)) [some (.ref (3,i)),some (.int num),some (.int told)] s = .ok (.bool (decide (p.1 = num))) s:=e_cmp (e_sub eo rfl rfl) rfl rfl
  have e1:=e_isN (g:=true) (t:=false) eo (decide_eq_false nofun)
  by_cases hn:p.1 = num
  ·have e:(W.c i).came num told = ⟨(W.c i).begun,none,(W.c i).closed ++ [(num,told)]⟩:=by rw [CS.came,hop]; exact if_pos hn
   rw [e]
   have hll:((W.c i).closed.map ansV).length < 16777216:=by rw [List.length_map]; lia
   refine st_if (t:=true) (s':=s) (e_andT e1 (e_and1 (e0.trans (congrArg (fun q=>Res.ok (V.bool q) s) (decide_eq_true hn))))) ?_
   have a1:=a.setClosed i ⟨(W.c i).begun,(W.c i).op,(W.c i).closed ++ [(num,told)]⟩ rfl rfl
   have f1:Fr NWp s (s.put (8,i) (.list (((W.c i).closed ++ [(num,told)]).map ansV))):=nwp_put (of_decide_eq_true (p:=8 < 11) rfl) _
   refine st_expr (v:=.none) (s':=s.put (8,i) (.list (((W.c i).closed ++ [(num,told)]).map ansV))) (e_bm (x:=.ref (8,i)) (vs:=[ansV (num,told)]) (e_attr rfl (ga_ok ho rfl)) (bm_list hcl) rfl (by rw [List.map_append]; exact append_at _ _ _ _ hcl hll)) ?_
   generalize s.put (8,i) (.list (((W.c i).closed ++ [(num,told)]).map ansV)) = t at a1 f1
   have hself:updN W.c i ⟨(W.c i).begun,(W.c i).op,(W.c i).closed ++ [(num,told)]⟩ i = ⟨(W.c i).begun,(W.c i).op,(W.c i).closed ++ [(num,told)]⟩:=if_pos rfl
   have ho1:t.heap (3,i) = some (cObj i ⟨(W.c i).begun,(W.c i).op,(W.c i).closed ++ [(num,told)]⟩):=(a1.co i hi).trans (congrArg (fun c=>some (cObj i c)) hself)
   have a2:WAt (t.put (3,i) (cObj i ⟨(W.c i).begun,none,(W.c i).closed ++ [(num,told)]⟩)) ks { W with c:=updN (updN W.c i ⟨(W.c i).begun,(W.c i).op,(W.c i).closed ++ [(num,told)]⟩) i ⟨(W.c i).begun,none,(W.c i).closed ++ [(num,told)]⟩ } x:=a1.setCaller i ⟨(W.c i).begun,none,(W.c i).closed ++ [(num,told)]⟩ (congrArg CS.closed hself).symm
   rw [updN_updN] at a2
   exact st_setattr (v:=.none) (s':=t.put (3,i) (cObj i ⟨(W.c i).begun,none,(W.c i).closed ++ [(num,told)]⟩)) rfl rfl (sa_ok 2 _ ho1 rfl) (st_next (st_nil ⟨rfl,a2,f1.put (of_decide_eq_true (p:=3 < 11) rfl) _⟩))
  ·have e:(W.c i).came num told = W.c i:=by rw [CS.came,hop]; exact if_neg hn
   rw [e,updN_self]
   exact st_if (t:=false) (s':=s) (e_andT e1 (e_and1 (e0.trans (congrArg (fun q=>Res.ok (V.bool q) s) (decide_eq_false hn))))) (st_next (st_nil ⟨rfl,a,.refl _ _⟩))
theorem run_home (HP:HouseP P) (hf:P.fns 52 = some f_World_home) (n:Nat) (a:WAt s ks W x) {key:Key} (hk:key ∈ ks):run P (n + 3) 52 [.ref (1,0),.str key] s = .ok (homeV W key) s:=by
 have h0:=run_has HP (n + 1) (a.hh.at_ false) key
 have h1:=run_has HP (n + 1) (a.hh.at_ true) key
 have o0:=(a.hh.at_ false).o
 have o1:=(a.hh.at_ true).o
 refine okr_eq (okr_run hf rfl ?_)
 refine st_expr (e_meth (vs:=[.str key]) rfl ((meth_of a.o).trans H.m15) rfl (need_key H (n + 1) a hk)) ?_
 refine st_for (v:=.lst [.ref (2,0),.ref (2,1)]) (s':=s) (xs:=[.ref (2,0),.ref (2,1)]) (e_attr rfl (ga_ok a.o rfl)) rfl rfl ?_
 have turn:∀ (b:Bool) (l2:Option V) (rest:List V),(W.h b).has key = false → OkR (forLoop s false (.lst [.ref (2,0),.ref (2,1)]) (setTT P (run P (n + 2)) (.inl (.loc 2))) (exs P (run P (n + 2)) (n + 2) [.ite (.meth (.loc 2) 0 [.loc 1]) [.ret (some (.attr (.loc 2) 0))] []]) rest [some (.ref (1,0)),some (.str key),some (.ref (2,hx b))] s) (seqQ P (run P (n + 2)) (n + 2) [.ret (some .none)] fun p t=>flV p.1 = homeV W key ∧ t = s) →
   OkR (forLoop s false (.lst [.ref (2,0),.ref (2,1)]) (setTT P (run P (n + 2)) (.inl (.loc 2))) (exs P (run P (n + 2)) (n + 2) [.ite (.meth (.loc 2) 0 [.loc 1]) [.ret (some (.attr (.loc 2) 0))] []]) (.ref (2,hx b) :: rest) [some (.ref (1,0)),some (.str key),l2] s) (seqQ P (run P (n + 2)) (n + 2) [.ret (some .none)] fun p t=>flV p.1 = homeV W key ∧ t = s):=by
  intro b l2 rest hb k
  have hr:=run_has HP (n + 1) (a.hh.at_ b) key
  rw [hb] at hr
  rw [forLoop_cons]
  show OkR (Res.bind (exs P (run P (n + 2)) (n + 2) [.ite (.meth (.loc 2) 0 [.loc 1]) [.ret (some (.attr (.loc 2) 0))] []] [some (.ref (1,0)),some (.str key),some (.ref (2,hx b))] s) _) _
  have e:exs P (run P (n + 2)) (n + 2) [.ite (.meth (.loc 2) 0 [.loc 1]) [.ret (some (.attr (.loc 2) 0))] []] [some (.ref (1,0)),some (.str key),some (.ref (2,hx b))] s = .ok (.next,[some (.ref (1,0)),some (.str key),some (.ref (2,hx b))]) s:=okr_eq (st_if (t:=false) (s':=s) (e_meth (vs:=[.str key]) rfl ((meth_of (a.hh.at_ b).o).trans HP.mhas) rfl hr) (st_next (st_nil ⟨rfl,rfl⟩)))
  rw [e]
  exact k
 have hit:∀ (b:Bool) (l2:Option V) (rest:List V),(W.h b).has key = true → homeV W key = .int (W.h b).num → OkR (forLoop s false (.lst [.ref (2,0),.ref (2,1)]) (setTT P (run P (n + 2)) (.inl (.loc 2))) (exs P (run P (n + 2)) (n + 2) [.ite (.meth (.loc 2) 0 [.loc 1]) [.ret (some (.attr (.loc 2) 0))] []]) (.ref (2,hx b) :: rest) [some (.ref (1,0)),some (.str key),l2] s) (seqQ P (run P (n + 2)) (n + 2) [.ret (some .none)] fun p t=>flV p.1 = homeV W key ∧ t = s):=by
  intro b l2 rest hb hv
  have hr:=run_has HP (n + 1) (a.hh.at_ b) key
  rw [hb] at hr
  rw [forLoop_cons]
  show OkR (Res.bind (exs P (run P (n + 2)) (n + 2) [.ite (.meth (.loc 2) 0 [.loc 1]) [.ret (some (.attr (.loc 2) 0))] []] [some (.ref (1,0)),some (.str key),some (.ref (2,hx b))] s) _) _
  have e:exs P (run P (n + 2)) (n + 2) [.ite (.meth (.loc 2) 0 [.loc 1]) [.ret (some (.attr (.loc 2) 0))] []] [some (.ref (1,0)),some (.str key),some (.ref (2,hx b))] s = .ok (.ret (.int (W.h b).num),[some (.ref (1,0)),some (.str key),some (.ref (2,hx b))]) s:=okr_eq (st_if (t:=true) (s':=s) (e_meth (vs:=[.str key]) rfl ((meth_of (a.hh.at_ b).o).trans HP.mhas) rfl hr) (st_ret (e_attr rfl (ga_ok (a.hh.at_ b).o rfl)) ⟨rfl,rfl⟩))
  rw [e]
  exact ⟨hv.symm,rfl⟩
 cases c0:(W.h false).has key with
 | true=>exact hit false none [.ref (2,1)] c0 (by rw [homeV,c0]; exact if_pos rfl)
 | false =>
  refine turn false none [.ref (2,1)] c0 ?_
  cases c1:(W.h true).has key with
  | true=>exact hit true _ [] c1 (by rw [homeV,c0,c1]; rfl)
  | false =>
   refine turn true _ [] c1 ?_
   rw [forLoop_nil]
   show OkR (exs P (run P (n + 2)) (n + 2) [.ret (some .none)] [some (.ref (1,0)),some (.str key),some (.ref (2,hx true))] s) fun p t=>flV p.1 = homeV W key ∧ t = s
   exact st_ret (v:=.none) (s':=s) rfl ⟨by rw [homeV,c0,c1]; rfl,rfl⟩
theorem run_wmove {xc yc:Nat} (HP:HouseP P) (hm:P.fns 26 = some (f_House_move yc)) (hh:P.fns 52 = some f_World_home) (h24:P.meths 0 24 = some 52) (h5:P.meths 1 5 = some 26) (hf:P.fns 53 = some (f_World_move xc)) (n:Nat) (a:WAt s ks W x) {key:Key} (hk:key ∈ ks) (b:Bool) (hv:homeV W key = .int (hn b)) (z:HZ (W.h b)) {r:Row} (hr:kget key (W.h b).known = some r) (hs:r.st = .here) :
  OkR (run P (n + 4) 53 [.ref (1,0),.str key] s) fun v u=>v = .none ∧ WAt u ks { W with h:=upd W.h b ((W.h b).move key r) } x ∧ Fr NWp s u:=by
 have e1:=run_home H HP hh n a hk
 rw [hv] at e1
 refine okr_run hf rfl ?_
 refine st_assign (e_meth (vs:=[.str key]) rfl ((meth_of a.o).trans h24) rfl e1) rfl ?_
 refine st_if (t:=false) (s':=s) (e_isN (g:=false) (t:=false) rfl (decide_eq_false nofun)) (st_next ?_)
 refine st_exprQ (e_methQ (vs:=[.str key]) (e_hat a rfl rfl) ((meth_of (a.hh.at_ b).o).trans h5) rfl (run_move HP hm (n + 1) (a.hh.at_ b) z hr hs)) ?_
 rintro v u ⟨rfl,h1,h2⟩
 exact st_nil ⟨rfl,a.houses (ho_hf h2) (a.hh.deed h1 h2),nwp_hf h2⟩
theorem run_wnudge (HP:HouseP P) (hu:P.fns 29 = some f_House_nudge) (h8:P.meths 1 8 = some 29) (hf:P.fns 57 = some f_World_nudge) (n:Nat) (a:WAt s ks W x) (b:Bool) (z:HZ (W.h b)) (nd:((W.h b).written.map (·.1)).Nodup) (hz:W.post.length + (W.h b).nudge.length ≤ 16777000) :
  ∃ u,run P (n + 3) 57 [.ref (1,0),.int (hn b)] s = .ok .none u ∧ WAt u ks { W with post:=W.post ++ (W.h b).nudge } x ∧ Fr NWp s u:=by
 have a1:=a.setPost (W.post ++ (W.h b).nudge)
 rw [List.map_append] at a1
 refine ⟨_,okr_eq (okr_run hf rfl ?_),a1,nwp_put (of_decide_eq_true (p:=9 < 11) rfl) _⟩
 refine st_expr (e_meth (vs:=[.int (hn b)]) rfl ((meth_of a.o).trans H.m14) rfl (need_house H n b s)) ?_
 exact st_expr (v:=.none) (e_bm (x:=.ref (9,0)) (vs:=[.lst ((W.h b).nudge.map letV)]) (e_attr rfl (ga_ok a.o rfl)) (bm_list a.po) (e_cons (e_meth (vs:=[]) (e_hat a rfl rfl) ((meth_of (a.hh.at_ b).o).trans h8) rfl (run_nudge HP hu n (a.hh.at_ b) z nd)) rfl) (ext_at s (9,0) _ a.po rfl (by rw [List.length_map,List.length_map]; lia))) (st_nil ⟨rfl,rfl⟩)
omit H
theorem HH.wrote {h:Bool → HS} {s':MS} {b:Bool} (a:HH s x h) {h':HS} (g:HAt s' (hx b) ⟨(x b).k,s.cnt 5,s.cnt 6,s.cnt 7⟩ h') (f:Fr (At1 (2,hx b)) s s'):HH s' (upd x b ⟨(x b).k,s.cnt 5,s.cnt 6,s.cnt 7⟩) (upd h b h'):=by
 have hw:=fun k=>Nat.ne_of_lt (a.at_ k).iw
 have hl:=fun k=>Nat.ne_of_lt (a.at_ k).il
 have hr:=fun k=>Nat.ne_of_lt (a.at_ k).ir
 refine ⟨fun k=>?_,?_,?_,?_,?_⟩
 ·by_cases e:k = b
  ·subst e; rw [upd_self,upd_self]; exact g
  ·rw [upd_ne e,upd_ne e]; exact (a.at_ k).step f (hf2 e)
 ·cases b <;> exact a.k
 ·cases b
  ·exact (hw true).symm
  ·exact hw false
 ·cases b
  ·exact (hl true).symm
  ·exact hl false
 ·cases b
  ·exact (hr true).symm
  ·exact hr false
include H
theorem run_wwrite (HP:HouseP P) (hw:P.fns 27 = some f_House_write) (h6:P.meths 1 6 = some 27) (hf:P.fns 55 = some f_World_write) (n:Nat) (a:WAt s ks W x) (b:Bool) (z:HZ (W.h b)) (hz:W.post.length + (W.h b).laid.length ≤ 16777000) (hz2:W.rows.length + (W.h b).fresh.length ≤ 16777000) :
  OkR (run P (n + 3) 55 [.ref (1,0),.int (hn b)] s) fun v u=>v = .none ∧ (∃ x',WAt u ks { W with h:=upd W.h b (W.h b).write,post:=W.post ++ (W.h b).laid,rows:=W.rows ++ (W.h b).fresh } x') ∧ Fr NWp s u:=by
 refine okr_run hf rfl ?_
 refine st_expr (e_meth (vs:=[.int (hn b)]) rfl ((meth_of a.o).trans H.m14) rfl (need_house H n b s)) ?_
 obtain ⟨v,s1,e1,rfl,h1,f1⟩:=okr_elim (run_write HP hw (n + 1) (a.hh.at_ b) z)
 have a1:=a.houses (ho_at f1) (a.hh.wrote h1 f1)
 have la1:s1.heap (6,(x b).la) = some (.list ((W.h b).laid.map letV)):=(f1.1 (6,(x b).la) (a.hh.at_ b).il (kind_ne (by decide))).trans (a.hh.at_ b).la
 have fr1:s1.heap (7,(x b).fr) = some (.list ((W.h b).fresh.map lrowV)):=(f1.1 (7,(x b).fr) (a.hh.at_ b).ir (kind_ne (by decide))).trans (a.hh.at_ b).fr
 refine st_assign (e_meth (vs:=[]) (e_hat a rfl rfl) ((meth_of (a.hh.at_ b).o).trans h6) rfl e1) rfl ?_
 refine st_expr (v:=.none) (e_bm (x:=.ref (9,0)) (vs:=[.ref (6,(x b).la)]) (e_attr rfl (ga_ok a1.o rfl)) (bm_list a1.po) rfl (ext_at s1 (9,0) _ a1.po (seq_ref la1) (by rw [List.length_map,List.length_map]; show W.post.length + _ ≤ _; lia))) ?_
 have a2:=a1.setPost (W.post ++ (W.h b).laid)
 rw [List.map_append] at a2
 have f2:=(nwp_at f1).put (l:=(9,0)) (of_decide_eq_true (p:=9 < 11) rfl) (.list (W.post.map letV ++ (W.h b).laid.map letV))
 have fr2:(s1.put (9,0) (.list (W.post.map letV ++ (W.h b).laid.map letV))).heap (7,(x b).fr) = some (.list ((W.h b).fresh.map lrowV)):=(put_ne (kind_ne (by decide))).trans fr1
 generalize s1.put (9,0) (.list (W.post.map letV ++ (W.h b).laid.map letV)) = s2 at a2 f2 fr2
 have a3:=a2.setRows (W.rows ++ (W.h b).fresh)
 rw [List.map_append] at a3
 exact st_expr (v:=.none) (e_bm (x:=.ref (10,0)) (vs:=[.ref (7,(x b).fr)]) (e_attr rfl (ga_ok a2.o rfl)) (bm_list a2.ro) rfl (ext_at s2 (10,0) _ a2.ro (seq_ref fr2) (by rw [List.length_map,List.length_map]; show W.rows.length + _ ≤ _; lia))) (st_nil ⟨rfl,⟨_,a3⟩,f2.put (of_decide_eq_true (p:=10 < 11) rfl) _⟩)
theorem run_broughtA (hcc:P.fns 13 = some f_Caller_came) (h2:P.meths 2 2 = some 13) (n:Nat) (a:WAt s ks W x) (hi:i < W.nc) (num told:Int) (hz:(W.c i).closed.length < 16777000) :
  OkR (run P (n + 4) 48 [.ref (1,0),letV (.answer i num told)] s) fun v u=>v = .none ∧ WAt u ks { W with c:=updN W.c i ((W.c i).came num told) } x ∧ Fr NWp s u:=by
 refine okr_run H.brou rfl (st_if (t:=true) (s':=s) rfl ?_)
 refine st_exprQ (e_methQ (vs:=[.int num,.int told]) (e_at a hi rfl rfl) ((meth_of (a.co i hi)).trans h2) rfl (run_ccame H hcc (n + 2) a hi num told hz)) ?_
 rintro v u ⟨rfl,h3,h4⟩
 exact st_next (st_nil ⟨rfl,h3,h4⟩)
theorem run_handG (hf:P.fns 49 = some f_World_hand) (n:Nat) (a:WAt s ks W x) {p:Nat} (hp:p < W.post.length) {W':WS} (hb:∀ t,WAt t ks { W with post:=W.post.eraseIdx p } x → OkR (run P (n + 4) 48 [.ref (1,0),letV W.post[p]] t) fun v u=>v = .none ∧ WAt u ks W' x ∧ Fr NWp t u) :
  OkR (run P (n + 5) 49 [.ref (1,0),.int p] s) fun v u=>v = .none ∧ WAt u ks W' x ∧ Fr NWp s u:=by
 have hp':p < (W.post.map letV).length:=by rw [List.length_map]; exact hp
 refine okr_run hf rfl ?_
 refine st_expr (e_meth (vs:=[.int p]) rfl ((meth_of a.o).trans H.m16) rfl (need_place H (n + 2) a hp)) ?_
 have e1:=pop_at s (9,0) (W.post.map letV) p a.po hp'
 rw [post_at hp] at e1
 have a1:=a.pop p
 have f1:Fr NWp s (s.put (9,0) (.list ((W.post.map letV).eraseIdx p))):=nwp_put (of_decide_eq_true (p:=9 < 11) rfl) _
 generalize s.put (9,0) (.list ((W.post.map letV).eraseIdx p)) = t at e1 a1 f1
 refine st_exprQ (e_methQ (x:=.ref (1,0)) (vs:=[letV W.post[p]]) (s2:=t) rfl ((meth_of a.o).trans H.m20) (e_cons (e_bm (x:=.ref (9,0)) (vs:=[.int p]) (e_attr rfl (ga_ok a.o rfl)) (bm_list a.po) rfl e1) rfl) (hb t a1)) ?_
 rintro v u ⟨rfl,h1,h2⟩
 exact st_nil ⟨rfl,h1,f1.trans h2⟩
theorem run_twiceG (hf:P.fns 50 = some f_World_twice) (n:Nat) (a:WAt s ks W x) {p:Nat} (hp:p < W.post.length) {W':WS} (hb:OkR (run P (n + 4) 48 [.ref (1,0),letV W.post[p]] s) fun v u=>v = .none ∧ WAt u ks W' x ∧ Fr NWp s u) :
  OkR (run P (n + 5) 50 [.ref (1,0),.int p] s) fun v u=>v = .none ∧ WAt u ks W' x ∧ Fr NWp s u:=by
 have hp':p < (W.post.map letV).length:=by rw [List.length_map]; exact hp
 refine okr_run hf rfl ?_
 refine st_expr (e_meth (vs:=[.int p]) rfl ((meth_of a.o).trans H.m16) rfl (need_place H (n + 2) a hp)) ?_
 have e1:=i_seq (seq_ref a.po) p hp'
 rw [post_at hp] at e1
 refine st_exprQ (e_methQ (x:=.ref (1,0)) (vs:=[letV W.post[p]]) (s2:=s) rfl ((meth_of a.o).trans H.m20) (e_cons (e_sub (x:=.ref (9,0)) (y:=.int p) (e_attr rfl (ga_ok a.o rfl)) rfl e1) rfl) hb) ?_
 rintro v u ⟨rfl,h1,h2⟩
 exact st_nil ⟨rfl,h1,h2⟩
end
end Mine
end
section
namespace Mine
set_option genCtorIdx false in
structure KI (key:Key) (K D:Bool → Row) (post:List Letter) (laid:Bool → List Letter):Prop where
 side:∀ b,Side (hn b) (K b) (D b) (K (!b)) (D (!b))
 pp:∀ b T a ms,Letter.parcel (hn b) key T a ms ∈ post → (T - hn b) % 2 = 0 ∧ PP T (K (!b)) (D (!b))
 pt:∀ b T,Letter.taken (hn b) key T ∈ post → T ≤ (D (!b)).turn
 lp:∀ b T a ms,Letter.parcel (hn (!b)) key T a ms ∈ laid b → (T - hn (!b)) % 2 = 0 ∧ LP T (K b)
 lt:∀ b T,Letter.taken (hn (!b)) key T ∈ laid b → T ≤ (K b).turn
noncomputable def Off (key:Key):Letter → Prop
 | .parcel _ k _ _ _=>k ≠ key
 | .taken _ k _=>k ≠ key
 | _=>True
section
variable {key:Key} {K D:Bool → Row} {post:List Letter} {laid:Bool → List Letter} {s:Bool} {T am:Int} {ms:List Mark}
theorem one_hn (i:Bool):(1:Int) - hn i = hn (!i):=by cases i <;> rfl
theorem both {P:Bool → Prop} (s:Bool) (h1:P s) (h2:P (!s)):∀ b,P b:=fun b=>by cases s <;> cases b <;> assumption
theorem not_self (i:Bool):(!i) ≠ i:=by cases i <;> decide
theorem upd_not {α:Type} {f:Bool → α} {v:α}:upd f s v (!s) = f (!s):=upd_ne (not_self s)
theorem not_not (s:Bool):(!!s) = s:=Bool.not_not s
theorem KI.oth (h:KI key K D post laid) (s:Bool):Side (1 - hn s) (K (!s)) (D (!s)) (K s) (D s):=by
 have:=h.side (!s)
 rw [not_not] at this
 rw [one_hn]; exact this
theorem sides {K D:Bool → Row} (s:Bool) (h1:Side (hn s) (K s) (D s) (K (!s)) (D (!s))) (h2:Side (1 - hn s) (K (!s)) (D (!s)) (K s) (D s)):∀ b,Side (hn b) (K b) (D b) (K (!b)) (D (!b)) :=
 both s h1 (by rw [one_hn] at h2; rw [not_not]; exact h2)
theorem posts {K D K1 D1:Bool → Row} {post:List Letter} (s:Bool) (hp:∀ b T a ms,Letter.parcel (hn b) key T a ms ∈ post → (T - hn b) % 2 = 0 ∧ PP T (K (!b)) (D (!b)))
  (h1:∀ T,PP T (K s) (D s) → PP T (K1 s) (D1 s)) (h2:K1 (!s) = K (!s)) (h3:D1 (!s) = D (!s)):∀ b T a ms,Letter.parcel (hn b) key T a ms ∈ post → (T - hn b) % 2 = 0 ∧ PP T (K1 (!b)) (D1 (!b)) :=
 both s (fun T a ms q=>by rw [h2,h3]; exact hp s T a ms q) (fun T a ms q=>by
  have:=hp (!s) T a ms q
  rw [not_not] at this ⊢
  exact ⟨this.1,h1 T this.2⟩)
theorem KI.move (h:KI key K D post laid) (s:Bool) (a:Int) (ms:List Mark):KI key (upd K s { K s with st:=.owes }) D post (upd laid s (laid s ++ [.parcel (hn (!s)) key ((K s).turn + 1) a ms])) where
 side:=sides s (by rw [upd_self,upd_not]; exact (h.side s).move) (by rw [upd_self,upd_not]; exact (h.oth s).move')
 pp:=posts s h.pp (fun T q=>by rw [upd_self]; exact q.move) upd_not rfl
 pt:=h.pt
 lp:=both s (fun T a ms q=>by
   rw [upd_self] at q ⊢
   rcases List.mem_append.1 q with q | q
   ·exact ⟨(h.lp s T a ms q).1,(h.lp s T a ms q).2.move⟩
   ·cases List.mem_singleton.1 q
    have:=(h.side s).pk
    have e:=one_hn s
    exact ⟨by lia,LP.moved⟩)
  (fun T a ms q=>by rw [upd_not] at q ⊢; exact h.lp (!s) T a ms q)
 lt:=both s (fun T q=>by
   rw [upd_self] at q ⊢
   rcases List.mem_append.1 q with q | q
   ·exact h.lt s T q
   ·cases List.mem_singleton.1 q)
  (fun T q=>by rw [upd_not] at q ⊢; exact h.lt (!s) T q)
theorem KI.parcel (h:KI key K D post laid) (s:Bool) {a:Int} {ms:List Mark} (hm:Letter.parcel (hn s) key T a ms ∈ post) (ht:(K s).turn < T):KI key (upd K s ⟨.here,T,a,ms⟩) D post (upd laid s (laid s ++ [.taken (hn (!s)) key T])):=by
 obtain ⟨hp,L⟩:=h.pp s T a ms hm
 exact {
  side:=sides s (by rw [upd_self,upd_not]; exact (h.side s).parcel (h.oth s) hp ht L) (by rw [upd_self,upd_not]; exact (h.side s).parcel' (h.oth s) hp ht L)
  pp:=posts s h.pp (fun T q=>by rw [upd_self]; exact q.came (h.side s) ht) upd_not rfl
  pt:=h.pt
  lp:=both s (fun T' a ms q=>by
    rw [upd_self] at q ⊢
    rcases List.mem_append.1 q with q | q
    ·exact ⟨(h.lp s T' a ms q).1,(h.lp s T' a ms q).2.came ht⟩
    ·cases List.mem_singleton.1 q)
   (fun T a ms q=>by rw [upd_not] at q ⊢; exact h.lp (!s) T a ms q)
  lt:=both s (fun T' q=>by
    rw [upd_self] at q ⊢
    rcases List.mem_append.1 q with q | q
    ·exact Int.le_of_lt (Int.lt_of_le_of_lt (h.lt s T' q) ht)
    ·cases List.mem_singleton.1 q; exact Int.le_refl _)
   (fun T q=>by rw [upd_not] at q ⊢; exact h.lt (!s) T q) }
theorem KI.old (h:KI key K D post laid) (s:Bool) (ht:¬ (K s).turn < T):KI key K D post (upd laid s (laid s ++ [.taken (hn (!s)) key T])) where
 side:=h.side
 pp:=h.pp
 pt:=h.pt
 lp:=both s (fun T' a ms q=>by
   rw [upd_self] at q
   rcases List.mem_append.1 q with q | q
   ·exact h.lp s T' a ms q
   ·cases List.mem_singleton.1 q)
  (fun T a ms q=>by rw [upd_not] at q; exact h.lp (!s) T a ms q)
 lt:=both s (fun T' q=>by
   rw [upd_self] at q
   rcases List.mem_append.1 q with q | q
   ·exact h.lt s T' q
   ·cases List.mem_singleton.1 q; lia)
  (fun T q=>by rw [upd_not] at q; exact h.lt (!s) T q)
theorem KI.taken (h:KI key K D post laid) (s:Bool) (hm:Letter.taken (hn s) key ((K s).turn + 1) ∈ post):KI key (upd K s ⟨.gone,(K s).turn,0,[]⟩) D post laid where
 side:=sides s (by rw [upd_self,upd_not]; exact (h.side s).taken (h.pt s _ hm)) (by rw [upd_self,upd_not]; exact (h.oth s).taken')
 pp:=posts s h.pp (fun T q=>by rw [upd_self]; exact q.taken) upd_not rfl
 pt:=h.pt
 lp:=both s (fun T a ms q=>by rw [upd_self]; exact ⟨(h.lp s T a ms q).1,(h.lp s T a ms q).2.taken⟩) (fun T a ms q=>by rw [upd_not]; exact h.lp (!s) T a ms q)
 lt:=both s (fun T q=>by rw [upd_self]; exact h.lt s T q) (fun T q=>by rw [upd_not]; exact h.lt (!s) T q)
theorem KI.write (h:KI key K D post laid) (s:Bool) (hl:∀ L ∈ laid s,∀ b T a ms,L = .parcel (hn b) key T a ms → b = !s) (hl2:∀ L ∈ laid s,∀ b T,L = .taken (hn b) key T → b = !s):KI key K (upd D s (K s)) (post ++ laid s) (upd laid s []) where
 side:=sides s (by rw [upd_self,upd_not]; exact (h.side s).write) (by rw [upd_self,upd_not]; exact (h.side s).write' (h.oth s))
 pp:=fun b T a ms q=>by
  rcases List.mem_append.1 q with q | q
  ·exact posts (K1:=K) (D1:=upd D s (K s)) s h.pp (fun T q=>by rw [upd_self]; exact q.write (h.side s)) rfl upd_not b T a ms q
  ·have e:=hl _ q b T a ms rfl
   subst e
   have:=h.lp s T a ms q
   rw [not_not,upd_self]
   exact ⟨this.1,this.2.post⟩
 pt:=fun b T q=>by
  rcases List.mem_append.1 q with q | q
  ·have:=h.pt b T q
   by_cases e:(!b) = s
   ·rw [e,upd_self]
    rw [e] at this
    exact Int.le_trans this (h.side s).le
   ·rw [upd_ne e]; exact this
  ·have e:=hl2 _ q b T rfl
   subst e
   rw [not_not,upd_self]
   exact h.lt s T q
 lp:=both s (fun T a ms q=>by rw [upd_self] at q; exact (List.not_mem_nil q).elim) (fun T a ms q=>by rw [upd_not] at q; exact h.lp (!s) T a ms q)
 lt:=both s (fun T q=>by rw [upd_self] at q; exact (List.not_mem_nil q).elim) (fun T q=>by rw [upd_not] at q; exact h.lt (!s) T q)
theorem KI.sleep (h:KI key K D post laid) (s:Bool):KI key (upd K s (D s)) D post (upd laid s []) where
 side:=sides s (by rw [upd_self,upd_not]; exact (h.side s).sleep) (by rw [upd_self,upd_not]; exact (h.side s).sleep' (h.oth s))
 pp:=posts s h.pp (fun T q=>by rw [upd_self]; exact q.sleep) upd_not rfl
 pt:=h.pt
 lp:=both s (fun T a ms q=>by rw [upd_self] at q; exact (List.not_mem_nil q).elim) (fun T a ms q=>by rw [upd_not] at q ⊢; exact h.lp (!s) T a ms q)
 lt:=both s (fun T q=>by rw [upd_self] at q; exact (List.not_mem_nil q).elim) (fun T q=>by rw [upd_not] at q ⊢; exact h.lt (!s) T q)
theorem KI.inPost (h:KI key K D post laid) {post':List Letter} (hp:∀ L ∈ post',L ∈ post ∨ Off key L):KI key K D post' laid :=
 ⟨h.side,fun b T a ms q=>(hp _ q).elim (h.pp b T a ms) fun o=>absurd rfl o,fun b T q=>(hp _ q).elim (h.pt b T) fun o=>absurd rfl o,h.lp,h.lt⟩
theorem KI.inLaid (h:KI key K D post laid) {laid':Bool → List Letter} (hp:∀ b,∀ L ∈ laid' b,L ∈ laid b ∨ Off key L):KI key K D post laid' :=
 ⟨h.side,h.pp,h.pt,fun b T a ms q=>(hp b _ q).elim (h.lp b T a ms) fun o=>absurd rfl o,fun b T q=>(hp b _ q).elim (h.lt b T) fun o=>absurd rfl o⟩
theorem KI.nudge (h:KI key K D post laid) (s:Bool) (ho:(D s).st = .owes) (a:Int) (ms:List Mark):KI key K D (post ++ [.parcel (hn (!s)) key ((D s).turn + 1) a ms]) laid where
 side:=h.side
 pp:=fun b T a ms q=>by
  rcases List.mem_append.1 q with q | q
  ·exact h.pp b T a ms q
  ·have e:=List.mem_singleton.1 q
   have e1:hn b = hn (!s):=by injection e
   have eb:b = !s:=by
    have:=not_self s
    cases b <;> cases s <;> first | rfl | (exact absurd e1 (by decide))
   subst eb
   injection e with _ _ e3
   subst e3
   have:=(h.side s).pd
   have e4:=one_hn s
   rw [not_not]
   exact ⟨by lia,(h.side s).nudge ho⟩
 pt:=fun b T q=>by
  rcases List.mem_append.1 q with q | q
  ·exact h.pt b T q
  ·cases List.mem_singleton.1 q
 lp:=h.lp
 lt:=h.lt
theorem Side.same {p:Int} {K D K' D' K1 K2:Row} (h:Side p K D K' D') (e1:K1.st = K.st) (e2:K1.turn = K.turn) (e3:K2.turn = K'.turn):Side p K1 D K2 D' :=
 ⟨e2 ▸ h.pk,h.pd,e2 ▸ h.le,e2 ▸ h.up,fun q=>by rw [e2,e3]; exact h.hk (e1 ▸ q),fun q=>by rw [e3]; exact h.hd q,fun q=>by rw [e2]; exact h.gk (e1 ▸ q),h.gd,fun q1 q2=>by rw [e1]; exact h.sm (e2 ▸ q1) q2⟩
theorem KI.same (h:KI key K D post laid) {K1:Bool → Row} (e1:∀ b,(K1 b).st = (K b).st) (e2:∀ b,(K1 b).turn = (K b).turn):KI key K1 D post laid where
 side b:=(h.side b).same (e1 b) (e2 b) (e2 (!b))
 pp b T a ms q:=⟨(h.pp b T a ms q).1,(h.pp b T a ms q).2.tu,(h.pp b T a ms q).2.d,fun e=>by rw [e1]; exact (h.pp b T a ms q).2.k (e2 (!b) ▸ e)⟩
 pt:=h.pt
 lp b T a ms q:=⟨(h.lp b T a ms q).1,by rw [e2]; exact (h.lp b T a ms q).2.tu,fun e=>by rw [e1]; exact (h.lp b T a ms q).2.k (e2 b ▸ e)⟩
 lt b T q:=by rw [e2]; exact h.lt b T q
end
end Mine
end
section
namespace Mine
noncomputable def rowOf (k:Known) (key:Key):Row:=(kget key k).getD ⟨.gone,0,0,[]⟩
theorem rowOf_some {k:Known} {key:Key} {r:Row} (h:kget key k = some r):rowOf k key = r:=by rw [rowOf,h]; rfl
theorem rowOf_put (k:Known) (key key':Key) (x:Row):rowOf (kput key x k) key' = if key' = key then x else rowOf k key':=by
 rw [rowOf,kget_kput]
 split <;> rfl
noncomputable abbrev KIh (key:Key) (h:Bool → HS) (post:List Letter):Prop:=KI key (fun b=>rowOf (h b).known key) (fun b=>rowOf (h b).written key) post (fun b=>(h b).laid)
section
variable {key:Key} {h:Bool → HS} {post:List Letter} {b:Bool} {h':HS} {ks:List Key} {m:Nat}
theorem upd_fun {α β:Type} (f:α → β) (g:Bool → α) (b:Bool) (v:α):(fun k=>f (upd g b v k)) = upd (fun k=>f (g k)) b (f v):=by
 funext k
 by_cases e:k = b
 ·subst e; rw [upd_self,upd_self]
 ·rw [upd_ne e,upd_ne e]
theorem upd_id {α:Type} (f:Bool → α) (b:Bool):upd f b (f b) = f:=by
 funext k
 by_cases e:k = b
 ·subst e; rw [upd_self]
 ·rw [upd_ne e]
theorem KIh.deed (q:KI key (upd (fun b=>rowOf (h b).known key) b (rowOf h'.known key)) (upd (fun b=>rowOf (h b).written key) b (rowOf h'.written key)) post (upd (fun b=>(h b).laid) b h'.laid)):KIh key (upd h b h') post:=by
 show KI key (fun k=>rowOf (upd h b h' k).known key) (fun k=>rowOf (upd h b h' k).written key) post (fun k=>(upd h b h' k).laid)
 rw [upd_fun (fun x:HS=>rowOf x.known key),upd_fun (fun x:HS=>rowOf x.written key),upd_fun (fun x:HS=>x.laid)]
 exact q
theorem KIh.quiet (q:KIh key h post) (e1:(rowOf h'.known key).st = (rowOf (h b).known key).st) (e2:(rowOf h'.known key).turn = (rowOf (h b).known key).turn) (e3:h'.written = (h b).written) (hl:∀ L ∈ h'.laid,L ∈ (h b).laid ∨ Off key L):KIh key (upd h b h') post:=by
 refine KIh.deed ?_
 rw [e3,upd_id (fun b=>rowOf (h b).written key)]
 have q1:KI key (upd (fun b=>rowOf (h b).known key) b (rowOf h'.known key)) (fun b=>rowOf (h b).written key) post (fun b=>(h b).laid) :=
  q.same (upd_all (P:=fun k (r:Row)=>r.st = (rowOf (h k).known key).st) e1 fun _ _=>rfl) (upd_all (P:=fun k (r:Row)=>r.turn = (rowOf (h k).known key).turn) e2 fun _ _=>rfl)
 exact q1.inLaid (upd_all (P:=fun k (l:List Letter)=>∀ L ∈ l,L ∈ (h k).laid ∨ Off key L) hl fun _ _ _ z=>.inl z)
theorem called_rows {x:HS} {c n:Int} {k:Key} {w:W} {r:Row} (hk:kget k x.known = some r) (hs:r.st = .here):(rowOf (x.called c n k w r).known key).st = (rowOf x.known key).st ∧ (rowOf (x.called c n k w r).known key).turn = (rowOf x.known key).turn ∧ (x.called c n k w r).written = x.written ∧ ∀ L ∈ (x.called c n k w r).laid,L ∈ x.laid ∨ ∃ t,L = .answer c n t:=by
 have fi:(rowOf (x.first c n k w r).known key).st = (rowOf x.known key).st ∧ (rowOf (x.first c n k w r).known key).turn = (rowOf x.known key).turn ∧ (x.first c n k w r).written = x.written ∧ ∀ L ∈ (x.first c n k w r).laid,L ∈ x.laid ∨ ∃ t,L = .answer c n t:=by
  refine ⟨?_,?_,rfl,fun L q=>(List.mem_append.1 q).imp id fun q=>⟨_,List.mem_singleton.1 q⟩⟩
  ·show (rowOf (kput k _ x.known) key).st = _
   rw [rowOf_put]
   split
   ·rename_i e; rw [e,rowOf_some hk,hs]
   ·rfl
  ·show (rowOf (kput k _ x.known) key).turn = _
   rw [rowOf_put]
   split
   ·rename_i e; rw [e,rowOf_some hk]
   ·rfl
 unfold HS.called
 split
 ·split
  ·exact ⟨rfl,rfl,rfl,fun L q=>.inl q⟩
  ·split
   ·exact ⟨rfl,rfl,rfl,fun L q=>(List.mem_append.1 q).imp id fun q=>⟨_,List.mem_singleton.1 q⟩⟩
   ·exact fi
 ·exact fi
theorem KIh.came (q:KIh key h post) (I:HInv (h b) ks m) (nu:(h b).num = hn b) {L:Letter} (hL:L ∈ post) (ha:toHouse b L):KIh key (upd h b ((h b).came L)) post:=by
 cases L with
 | answer=>exact ha.elim
 | call hh c n k w =>
  cases hk:kget k (h b).known with
  | none=>rw [came_call0 hk,upd_id]; exact q
  | some r =>
   rw [came_call hk]
   by_cases hs:r.st = .here
   ·rw [if_pos hs]
    obtain ⟨e1,e2,e3,e4⟩:=called_rows (key:=key) (c:=c) (n:=n) (w:=w) hk hs
    exact KIh.quiet q e1 e2 e3 fun L z=>(e4 L z).imp id fun z=>by obtain ⟨t,rfl⟩:=z; exact trivial
   ·rw [if_neg hs,upd_id]; exact q
 | parcel hh k T a ms =>
  have ha:hh = hn b:=ha
  subst ha
  cases hk:kget k (h b).known with
  | none=>rw [came_parcel0 hk,upd_id]; exact q
  | some r =>
   rw [came_parcel hk]
   by_cases e:key = k
   ·subst e
    have hr:rowOf (h b).known key = r:=rowOf_some hk
    refine KIh.deed ?_
    show KI key (upd _ b (rowOf (if r.turn < T then kput key ⟨.here,T,a,ms⟩ (h b).known else (h b).known) key)) (upd (fun b=>rowOf (h b).written key) b (rowOf (h b).written key)) post (upd (fun b=>(h b).laid) b ((h b).laid ++ [.taken (1 - (h b).num) key T]))
    rw [upd_id (fun b=>rowOf (h b).written key),nu,one_hn]
    by_cases ht:r.turn < T
    ·rw [if_pos ht,rowOf_put,if_pos rfl]
     exact KI.parcel q b hL (by show (rowOf (h b).known key).turn < T; rw [hr]; exact ht)
    ·rw [if_neg ht,upd_id (fun b=>rowOf (h b).known key)]
     exact KI.old q b (by show ¬ (rowOf (h b).known key).turn < T; rw [hr]; exact ht)
   ·have e0:rowOf (if r.turn < T then kput k ⟨.here,T,a,ms⟩ (h b).known else (h b).known) key = rowOf (h b).known key:=by
     split
     ·rw [rowOf_put,if_neg e]
     ·rfl
    exact KIh.quiet q (congrArg Row.st e0) (congrArg Row.turn e0) rfl fun L z=>(List.mem_append.1 z).imp id fun z=>by rw [List.mem_singleton.1 z]; exact fun q=>e q.symm
 | taken hh k T =>
  have ha:hh = hn b:=ha
  subst ha
  cases hk:kget k (h b).known with
  | none=>rw [came_taken0 hk,upd_id]; exact q
  | some r =>
   rw [came_taken hk]
   by_cases hs:r.st = .owes ∧ T = r.turn + 1
   ·rw [if_pos hs]
    by_cases e:key = k
    ·subst e
     have hr:rowOf (h b).known key = r:=rowOf_some hk
     refine KIh.deed ?_
     show KI key (upd _ b (rowOf (kput key ⟨.gone,r.turn,0,[]⟩ (h b).known) key)) (upd (fun b=>rowOf (h b).written key) b (rowOf (h b).written key)) post (upd (fun b=>(h b).laid) b (h b).laid)
     rw [upd_id (fun b=>rowOf (h b).written key),upd_id (fun b=>(h b).laid),rowOf_put,if_pos rfl,← hr]
     refine KI.taken q b ?_
     show Letter.taken (hn b) key ((rowOf (h b).known key).turn + 1) ∈ post
     rw [hr,← hs.2]; exact hL
    ·have e0:rowOf (kput k ⟨.gone,r.turn,0,[]⟩ (h b).known) key = rowOf (h b).known key:=by rw [rowOf_put,if_neg e]
     exact KIh.quiet q (congrArg Row.st e0) (congrArg Row.turn e0) rfl fun L z=>.inl z
   ·rw [if_neg hs,upd_id]; exact q
theorem KIh.move (q:KIh key h post) (nu:(h b).num = hn b) {k:Key} {r:Row} (hk:kget k (h b).known = some r):KIh key (upd h b ((h b).move k r)) post:=by
 by_cases e:key = k
 ·subst e
  have hr:rowOf (h b).known key = r:=rowOf_some hk
  refine KIh.deed ?_
  show KI key (upd _ b (rowOf (kput key { r with st:=.owes } (h b).known) key)) (upd (fun b=>rowOf (h b).written key) b (rowOf (h b).written key)) post (upd (fun b=>(h b).laid) b ((h b).laid ++ [.parcel (1 - (h b).num) key (r.turn + 1) r.amt r.marks]))
  rw [upd_id (fun b=>rowOf (h b).written key),nu,one_hn,rowOf_put,if_pos rfl,← hr]
  exact KI.move q b _ _
 ·have e0:rowOf (kput k { r with st:=.owes } (h b).known) key = rowOf (h b).known key:=by rw [rowOf_put,if_neg e]
  exact KIh.quiet q (congrArg Row.st e0) (congrArg Row.turn e0) rfl fun L z=>(List.mem_append.1 z).imp id fun z=>by rw [List.mem_singleton.1 z]; exact fun q=>e q.symm
theorem KIh.sleep (q:KIh key h post):KIh key (upd h b (h b).sleep) post:=by
 refine KIh.deed ?_
 show KI key (upd _ b (rowOf (h b).written key)) (upd (fun b=>rowOf (h b).written key) b (rowOf (h b).written key)) post (upd (fun b=>(h b).laid) b [])
 rw [upd_id (fun b=>rowOf (h b).written key)]
 exact KI.sleep q b
noncomputable def ForH (b:Bool):Letter → Prop
 | .parcel h _ _ _ _=>h = hn b
 | .taken h _ _=>h = hn b
 | _=>True
theorem hn_inj {a b:Bool} (e:hn a = hn b):a = b:=by cases a <;> cases b <;> first | rfl | exact absurd e (by decide)
theorem KIh.write (q:KIh key h post) (ha:∀ L ∈ (h b).laid,ForH (!b) L):KIh key (upd h b (h b).write) (post ++ (h b).laid):=by
 refine KIh.deed ?_
 show KI key (upd (fun b=>rowOf (h b).known key) b (rowOf (h b).known key)) (upd _ b (rowOf (h b).known key)) (post ++ (h b).laid) (upd (fun b=>(h b).laid) b [])
 rw [upd_id (fun b=>rowOf (h b).known key)]
 exact KI.write q b (fun L hL b' T a ms e=>by have:=ha L hL; rw [e] at this; exact hn_inj this) (fun L hL b' T e=>by have:=ha L hL; rw [e] at this; exact hn_inj this)
theorem KIh.nudges (nu:(h b).num = hn b):∀ (l:Known) (post:List Letter),KIh key h post → (∀ p ∈ l,kget p.1 (h b).written = some p.2 ∧ p.2.st = .owes) → KIh key h (post ++ l.map fun p=>parcelOf (h b).num p.1 p.2)
 | [],post,q,_=>by rw [List.map_nil,List.append_nil]; exact q
 | p :: l,post,q,hl=>by
  have hp:=hl p (List.mem_cons_self ..)
  rw [List.map_cons,show post ++ (parcelOf (h b).num p.1 p.2 :: l.map fun p=>parcelOf (h b).num p.1 p.2) = (post ++ [parcelOf (h b).num p.1 p.2]) ++ l.map fun p=>parcelOf (h b).num p.1 p.2 from (List.append_assoc post [parcelOf (h b).num p.1 p.2] _).symm]
  refine KIh.nudges nu l _ ?_ fun x hx=>hl x (List.mem_cons_of_mem _ hx)
  by_cases e:key = p.1
  ·have hr:rowOf (h b).written key = p.2:=by rw [e]; exact rowOf_some hp.1
   have ho:(rowOf (h b).written key).st = .owes:=by rw [hr]; exact hp.2
   have:=KI.nudge q b ho p.2.amt p.2.marks
   rw [← one_hn,← nu] at this
   show KI key _ _ (post ++ [.parcel (1 - (h b).num) p.1 (p.2.turn + 1) p.2.amt p.2.marks]) _
   rw [← e,← hr]
   rw [← hr] at this
   exact this
  ·refine KI.inPost q fun L hL=>(List.mem_append.1 hL).imp id fun z=>?_
   rw [List.mem_singleton.1 z]
   exact fun q=>e q.symm
theorem KIh.nudge (q:KIh key h post) (nu:(h b).num = hn b) (nd:((h b).written.map (·.1)).Nodup):KIh key h (post ++ (h b).nudge) :=
 KIh.nudges nu _ post q fun p hp=>by
  obtain ⟨h1,h2⟩:=List.mem_filter.1 hp
  exact ⟨kget_nodup nd h1,of_decide_eq_true h2⟩
noncomputable def LetOk (ks:List Key) (nc:Nat):Letter → Prop
 | .call h c _ k _=>(∃ b,h = hn b) ∧ (∃ i:Nat,i < nc ∧ c = i) ∧ k ∈ ks
 | .parcel h k _ _ ms=>(∃ b,h = hn b) ∧ k ∈ ks ∧ MOk ms
 | .taken h k _=>(∃ b,h = hn b) ∧ k ∈ ks
 | .answer c _ _=>∃ i:Nat,i < nc ∧ c = i
set_option genCtorIdx false in
structure WI (ks:List Key) (nc m:Nat) (W:WS):Prop where
 nc_:W.nc = nc
 hi:∀ b,HInv (W.h b) ks m
 nu:∀ b,(W.h b).num = hn b
 ki:∀ key ∈ ks,KIh key W.h W.post
 po:∀ L ∈ W.post,LetOk ks nc L
 la:∀ b,∀ L ∈ (W.h b).laid,LetOk ks nc L ∧ ForH (!b) L
 pl:W.post.length + (W.h false).laid.length + (W.h true).laid.length ≤ 8 * m
 rl:W.rows.length + (W.h false).fresh.length + (W.h true).fresh.length ≤ m
 co:∀ i,i < nc → (∀ p,(W.c i).op = some p → p.2.1 ∈ ks) ∧ (W.c i).closed.length ≤ m
set_option genCtorIdx false in
structure More (ks:List Key) (nc:Nat) (b:Bool) (x y:HS):Prop where
 la:∀ L ∈ y.laid,L ∈ x.laid ∨ (LetOk ks nc L ∧ ForH (!b) L)
 ll:y.laid.length ≤ x.laid.length + 1
 fl:y.fresh.length ≤ x.fresh.length + 1
variable {nc:Nat} {W:WS}
theorem More.refl (x:HS):More ks nc b x x:=⟨fun _ q=>.inl q,Nat.le_succ _,Nat.le_succ _⟩
theorem More.snoc {x y:HS} {L:Letter} (h1:y.laid = x.laid ++ [L]) (h2:LetOk ks nc L ∧ ForH (!b) L) (h3:y.fresh.length ≤ x.fresh.length + 1):More ks nc b x y :=
 ⟨fun L' q=>by rw [h1] at q; exact (List.mem_append.1 q).imp id fun z=>by rw [List.mem_singleton.1 z]; exact h2,by rw [h1,List.length_append]; exact Nat.le_refl _,h3⟩
theorem More.called {x:HS} {c n:Int} {k:Key} {w:Mine.W} {r:Row} (hc:∃ i:Nat,i < nc ∧ c = i):More ks nc b x (x.called c n k w r):=by
 have fi:More ks nc b x (x.first c n k w r):=.snoc rfl ⟨hc,trivial⟩ (by rw [HS.first,List.length_append]; exact Nat.le_refl _)
 unfold HS.called
 split
 ·split
  ·exact .refl _
  ·split
   ·exact .snoc rfl ⟨hc,trivial⟩ (Nat.le_succ _)
   ·exact fi
 ·exact fi
theorem More.came {x:HS} (nu:x.num = hn b) {L:Letter} (hL:LetOk ks nc L):More ks nc b x (x.came L):=by
 cases L with
 | answer=>exact .refl _
 | call hh c n k w =>
  cases hk:kget k x.known with
  | none=>rw [came_call0 hk]; exact .refl _
  | some r =>
   rw [came_call hk]
   split
   ·exact .called hL.2.1
   ·exact .refl _
 | parcel hh k T a ms =>
  cases hk:kget k x.known with
  | none=>rw [came_parcel0 hk]; exact .refl _
  | some r =>
   rw [came_parcel hk]
   have e:=one_hn b
   exact .snoc rfl ⟨⟨⟨!b,by rw [nu]; exact e⟩,hL.2.1⟩,by rw [nu]; exact e⟩ (Nat.le_succ _)
 | taken hh k T =>
  cases hk:kget k x.known with
  | none=>rw [came_taken0 hk]; exact .refl _
  | some r =>
   rw [came_taken hk]
   split
   ·exact ⟨fun _ q=>.inl q,Nat.le_succ _,Nat.le_succ _⟩
   ·exact .refl _
theorem LetOk.mk (h6:nc ≤ 6) {L:Letter} (hL:LetOk ks nc L):LMk L:=by
 cases L with
 | call=>obtain ⟨-,⟨i,hi,rfl⟩,-⟩:=hL; exact ⟨by lia,by lia⟩
 | parcel=>exact hL.2.2
 | taken=>exact trivial
 | answer=>exact trivial
theorem two_len {f:Bool → HS} {y:HS} (b:Bool) (g:HS → Nat) (hg:g y ≤ g (f b) + 1):g (upd f b y false) + g (upd f b y true) ≤ g (f false) + g (f true) + 1:=by
 cases b
 ·show g y + g (f true) ≤ _; lia
 ·show g (f false) + g y ≤ _; lia
theorem WI.house (a:WI ks nc m W) (b:Bool) {y:HS} (hy:HInv y ks (m + 1)) (hnu:y.num = hn b) (hki:∀ key ∈ ks,KIh key (upd W.h b y) W.post) (hm:More ks nc b (W.h b) y):WI ks nc (m + 1) { W with h:=upd W.h b y } where
 nc_:=a.nc_
 hi:=upd_all (P:=fun _ h=>HInv h ks (m + 1)) hy fun k _=>(a.hi k).mono (Nat.le_succ _)
 nu:=upd_all (P:=fun k (h:HS)=>h.num = hn k) hnu fun k _=>a.nu k
 ki:=hki
 po:=a.po
 la:=upd_all (P:=fun k (h:HS)=>∀ L ∈ h.laid,LetOk ks nc L ∧ ForH (!k) L) (fun L q=>(hm.la L q).elim (a.la b L) id) fun k _=>a.la k
 pl:=by
  have h1:=two_len (f:=W.h) b (fun h=>h.laid.length) hm.ll
  have h2:=a.pl
  show W.post.length + _ + _ ≤ _
  dsimp only at h1 ⊢
  lia
 rl:=by
  have h1:=two_len (f:=W.h) b (fun h=>h.fresh.length) hm.fl
  have h2:=a.rl
  show W.rows.length + _ + _ ≤ _
  dsimp only at h1 ⊢
  lia
 co:=fun i hi=>⟨(a.co i hi).1,Nat.le_succ_of_le (a.co i hi).2⟩
theorem WI.came (a:WI ks nc m W) (h6:nc ≤ 6) {L:Letter} (hL:L ∈ W.post) (ha:toHouse b L):WI ks nc (m + 1) { W with h:=upd W.h b ((W.h b).came L) } :=
 a.house b ((a.hi b).came L (LetOk.mk h6 (a.po L hL))) ((num_came _ _).trans (a.nu b)) (fun key hk=>(a.ki key hk).came (a.hi b) (a.nu b) hL ha) (More.came (a.nu b) (a.po L hL))
theorem WI.move (a:WI ks nc m W) {k:Key} {r:Row} (hk:kget k (W.h b).known = some r) (hks:k ∈ ks):WI ks nc (m + 1) { W with h:=upd W.h b ((W.h b).move k r) } :=
 a.house b ((a.hi b).move hk) (a.nu b) (fun key hkey=>(a.ki key hkey).move (a.nu b) hk)
  (.snoc rfl ⟨⟨⟨!b,by rw [a.nu b]; exact one_hn b⟩,hks,(a.hi b).kk _ (kget_mem hk)⟩,by show 1 - (W.h b).num = _; rw [a.nu b]; exact one_hn b⟩ (Nat.le_succ _))
theorem WI.sleep (a:WI ks nc m W) (b:Bool):WI ks nc (m + 1) { W with h:=upd W.h b (W.h b).sleep } :=
 a.house b ((a.hi b).sleep.mono (Nat.le_succ _)) (a.nu b) (fun key hk=>(a.ki key hk).sleep) ⟨fun L q=>(List.not_mem_nil q).elim,Nat.zero_le _,Nat.zero_le _⟩
theorem WI.setPost (a:WI ks nc m W) {post':List Letter} (hki:∀ key ∈ ks,KIh key W.h post') (hpo:∀ L ∈ post',LetOk ks nc L) (hl:post'.length ≤ W.post.length + 8):WI ks nc (m + 1) { W with post:=post' } :=
 ⟨a.nc_,fun b=>(a.hi b).mono (Nat.le_succ _),a.nu,hki,hpo,a.la,by have:=a.pl; show post'.length + (W.h false).laid.length + (W.h true).laid.length ≤ _; lia,Nat.le_succ_of_le a.rl,fun i hi=>⟨(a.co i hi).1,Nat.le_succ_of_le (a.co i hi).2⟩⟩
theorem WI.erase (a:WI ks nc m W) (p:Nat):WI ks nc (m + 1) { W with post:=W.post.eraseIdx p } :=
 a.setPost (fun key hk=>(a.ki key hk).inPost fun L q=>.inl (List.mem_of_mem_eraseIdx q)) (fun L q=>a.po L (List.mem_of_mem_eraseIdx q)) (Nat.le_trans (List.length_eraseIdx_le ..) (Nat.le_add_right _ _))
theorem WI.post1 (a:WI ks nc m W) (c:Bool) {i:Nat} (hi:i < nc) (n:Int) {k:Key} (hk:k ∈ ks) (w:Mine.W):WI ks nc (m + 1) { W with post:=W.post ++ [.call (hn c) i n k w] } :=
 a.setPost (fun key hkey=>(a.ki key hkey).inPost fun L q=>(List.mem_append.1 q).imp id fun z=>by rw [List.mem_singleton.1 z]; exact trivial)
  (mem_snoc a.po ⟨⟨c,rfl⟩,⟨i,hi,rfl⟩,hk⟩) (by rw [List.length_append]; exact Nat.add_le_add_left (show 1 ≤ 8 by decide) _)
theorem WI.nudge (a:WI ks nc m W) (b:Bool) (nd:ks.Nodup) (h6:ks.length ≤ 6):WI ks nc (m + 1) { W with post:=W.post ++ (W.h b).nudge } :=
 a.setPost (fun key hk=>(a.ki key hk).nudge (a.nu b) (by rw [(a.hi b).hw]; exact nd))
  (fun L q=>(List.mem_append.1 q).elim (a.po L) fun q=>by
   obtain ⟨p,hp,rfl⟩:=List.mem_map.1 q
   have h1:=(List.mem_filter.1 hp).1
   exact ⟨⟨!b,by rw [a.nu b]; exact one_hn b⟩,by rw [← (a.hi b).hw]; exact List.mem_map.2 ⟨p,h1,rfl⟩,(a.hi b).kw p h1⟩)
  (by rw [List.length_append]; have:=nudge_len (a.hi b); lia)
theorem WI.write (a:WI ks nc m W) (b:Bool):WI ks nc (m + 1) { W with h:=upd W.h b (W.h b).write,post:=W.post ++ (W.h b).laid,rows:=W.rows ++ (W.h b).fresh } where
 nc_:=a.nc_
 hi:=upd_all (P:=fun _ h=>HInv h ks (m + 1)) ((a.hi b).write.mono (Nat.le_succ _)) fun k _=>(a.hi k).mono (Nat.le_succ _)
 nu:=upd_all (P:=fun k (h:HS)=>h.num = hn k) (a.nu b) fun k _=>a.nu k
 ki:=fun key hk=>(a.ki key hk).write fun L hL=>(a.la b L hL).2
 po:=fun L q=>(List.mem_append.1 q).elim (a.po L) fun q=>(a.la b L q).1
 la:=upd_all (P:=fun k (h:HS)=>∀ L ∈ h.laid,LetOk ks nc L ∧ ForH (!k) L) (fun L q=>(List.not_mem_nil q).elim) fun k _=>a.la k
 pl:=by
  have h2:=a.pl
  show (W.post ++ (W.h b).laid).length + _ + _ ≤ _
  rw [List.length_append]
  cases b
  ·show _ + 0 + (W.h true).laid.length ≤ _; lia
  ·show _ + (W.h false).laid.length + 0 ≤ _; lia
 rl:=by
  have h2:=a.rl
  show (W.rows ++ (W.h b).fresh).length + _ + _ ≤ _
  rw [List.length_append]
  cases b
  ·show _ + 0 + (W.h true).fresh.length ≤ _; lia
  ·show _ + (W.h false).fresh.length + 0 ≤ _; lia
 co:=fun i hi=>⟨(a.co i hi).1,Nat.le_succ_of_le (a.co i hi).2⟩
theorem WI.caller (a:WI ks nc m W) (i:Nat) (c:CS) (h1:∀ p,c.op = some p → p.2.1 ∈ ks) (h2:c.closed.length ≤ m + 1):WI ks nc (m + 1) { W with c:=updN W.c i c } :=
 ⟨a.nc_,fun b=>(a.hi b).mono (Nat.le_succ _),a.nu,a.ki,a.po,a.la,Nat.le_trans a.pl (by lia),Nat.le_succ_of_le a.rl,fun j hj=>by
  show (∀ p,(if j = i then c else W.c j).op = some p → p.2.1 ∈ ks) ∧ (if j = i then c else W.c j).closed.length ≤ m + 1
  split
  ·exact ⟨h1,h2⟩
  ·exact ⟨(a.co j hj).1,Nat.le_succ_of_le (a.co j hj).2⟩⟩
theorem WI.answer (a:WI ks nc m W) {i:Nat} (hi:i < nc) (num told:Int):WI ks nc (m + 1) { W with c:=updN W.c i ((W.c i).came num told) }:=by
 obtain ⟨h1,h2⟩:=a.co i hi
 refine a.caller i _ ?_ ?_
 ·intro p hp
  unfold CS.came at hp
  split at hp
  ·split at hp
   ·cases hp
   ·exact h1 p hp
  ·exact h1 p hp
 ·unfold CS.came
  split
  ·split
   ·rw [List.length_append]; exact Nat.succ_le_succ h2
   ·exact Nat.le_succ_of_le h2
  ·exact Nat.le_succ_of_le h2
theorem WI.new (nd:ks.Nodup) (nc:Nat):WI ks nc 0 (W0 ks nc) where
 nc_:=rfl
 hi b:=HInv.new (hn b) nd
 nu b:=rfl
 ki:=fun key hk=>by
  have e:∀ b,rowOf (HS.new (hn b) ks).known key = row0 (hn b):=fun b=>by
   refine rowOf_some (kget_nodup ?_ ?_)
   ·rw [new_known (hn b) nd,List.map_map]; exact (List.map_id ks).symm ▸ nd
   ·rw [new_known (hn b) nd]; exact List.mem_map.2 ⟨key,hk,rfl⟩
  have e':∀ b,rowOf (HS.new (hn b) ks).written key = row0 (hn b):=e
  refine ⟨fun b=>?_,fun b T a ms q=>(List.not_mem_nil q).elim,fun b T q=>(List.not_mem_nil q).elim,fun b T a ms q=>(List.not_mem_nil q).elim,fun b T q=>(List.not_mem_nil q).elim⟩
  show Side (hn b) (rowOf (HS.new (hn b) ks).known key) (rowOf (HS.new (hn b) ks).written key) (rowOf (HS.new (hn (!b)) ks).known key) (rowOf (HS.new (hn (!b)) ks).written key)
  rw [e,e',e,e']
  cases b
  ·exact ⟨by decide,by decide,by decide,by decide,fun _=>by decide,fun _=>by decide,nofun,nofun,fun _ h=>h⟩
  ·exact ⟨by decide,by decide,by decide,by decide,nofun,nofun,fun _=>by decide,fun _=>by decide,fun _ h=>h⟩
 po:=fun L q=>(List.not_mem_nil q).elim
 la:=fun b L q=>(List.not_mem_nil q).elim
 pl:=Nat.le_refl _
 rl:=Nat.le_refl _
 co:=fun i _=>⟨nofun,Nat.le_refl _⟩
end
end Mine
end
section
namespace Mine
noncomputable def Good (a:Int) (ms:List Mark) (r:LRow):Prop:=r.told = (dn a r.w).2 ∧ ∀ p,mfind r.c ms = some p → p.1 < r.n
noncomputable def stepM (a:Int) (ms:List Mark) (r:LRow):List Mark:=mput (r.c,r.n,(dn a r.w).2) ms
noncomputable def Chain:Int → List Mark → List LRow → Int → List Mark → Prop
  | a,ms,[],a',ms'=>a' = a ∧ ms' = ms
  | a,ms,r :: l,a',ms'=>Good a ms r ∧ Chain (dn a r.w).1 (stepM a ms r) l a' ms'
theorem Chain.app {a1 a2:Int} {m1 m2:List Mark} {l2:List LRow}:∀ {l:List LRow} {a:Int} {ms:List Mark},Chain a ms l a1 m1 → Chain a1 m1 l2 a2 m2 → Chain a ms (l ++ l2) a2 m2
  | [],_,_,⟨e1,e2⟩,h2=>by subst e1; subst e2; exact h2
  | _ :: _,_,_,⟨g,h1⟩,h2=>⟨g,h1.app h2⟩
theorem Chain.nil {a:Int} {ms:List Mark}:Chain a ms [] a ms:=⟨rfl,rfl⟩
theorem Chain.snoc {a a1:Int} {ms m1:List Mark} {l:List LRow} {r:LRow} (h:Chain a ms l a1 m1) (g:Good a1 m1 r):Chain a ms (l ++ [r]) (dn a1 r.w).1 (stepM a1 m1 r):=h.app ⟨g,.nil⟩
noncomputable def rowsOf (key:Key) (l:List LRow):List LRow:=l.filter fun r=>decide (r.k = key)
theorem rows_app (key:Key) (l l':List LRow):rowsOf key (l ++ l') = rowsOf key l ++ rowsOf key l':=List.filter_append ..
theorem rows_hit (r:LRow):rowsOf r.k [r] = [r]:=by rw [rowsOf,List.filter_cons,if_pos (decide_eq_true rfl)]; rfl
theorem rows_miss {key:Key} {r:LRow} (h:r.k ≠ key):rowsOf key [r] = []:=by rw [rowsOf,List.filter_cons,if_neg (by rw [decide_eq_false h]; exact Bool.false_ne_true)]; rfl
noncomputable def Is (r:Row) (a:Int) (ms:List Mark):Prop:=r.amt = a ∧ r.marks = ms
noncomputable def Live (K D:Row):Prop:=K.st = .here ∨ (K.st = .owes ∧ (K.turn = D.turn → D.st = .here))
noncomputable def PC (T a:Int) (ms:List Mark) (X:Row):Prop:=X.turn = T - 1 → X.st = .owes → Is X a ms
section
variable {p T am:Int} {K D K' D':Row} {ms:List Mark}
theorem Live.lt (h:Live K D) (a:Side p K D K' D') (b:Side (1 - p) K' D' K D):K'.turn < K.turn:=by
  rcases h with h | ⟨h,g⟩
  · exact a.hk h
  · by_cases e:K.turn = D.turn
    · have:=a.hd (g e); lia
    · have h1:=a.le; have h2:=b.up; have h3:=a.pk; have h4:=a.pd
      lia
theorem live_self (h:Live K K):K.st = .here:=h.elim id fun q=>q.2 rfl
theorem PC.here {X:Row} {a:Int} (h:X.st ≠ .owes):PC T a ms X:=fun _ e=>absurd e h
theorem parcel_is {A a:Int} {M ms:List Mark} (sa:Side p K D K' D') (sb:Side (1 - p) K' D' K D) (ht:(T - p) % 2 = 0) (h:K.turn < T) (L:PP T K' D') (pc:PC T a ms D') (dw:D'.st = .owes → D.turn ≤ D'.turn → Is D' A M):a = A ∧ ms = M:=by
  have h1:=sa.lt sb ht h; have h2:=L.tu; have h3:=sb.le; have h4:=sa.le
  have e:D'.turn = T - 1:=by lia
  have ho:D'.st = .owes:=by
    cases q:D'.st with
    | here=>exact absurd q (L.d e)
    | owes=>rfl
    | gone=>have:=sb.gd q; lia
  have i1:=pc e ho
  have i2:=dw ho (by lia)
  exact ⟨i1.1.symm.trans i2.1,i1.2.symm.trans i2.2⟩
end
set_option genCtorIdx false in
structure TI (key:Key) (K D:Bool → Row) (post:List Letter) (laid:Bool → List Letter) (R:List LRow) (F:Bool → List LRow) (A:Int) (M:List Mark):Prop where
  ch:Chain 0 [] R A M
  dh:∀ b,(D b).st = .here → Is (D b) A M
  dw:∀ b,(D b).st = .owes → (D (!b)).turn ≤ (D b).turn → Is (D b) A M
  kl:∀ b,Live (K b) (D b) → Chain A M (F b) (K b).amt (K b).marks
  kf:∀ b,¬ Live (K b) (D b) → F b = []
  s1:∀ b,(K b).turn = (D b).turn → (D b).st = .owes → (K b).st = .owes → Is (K b) (D b).amt (D b).marks
  pp:∀ b T a ms,Letter.parcel (hn b) key T a ms ∈ post → PC T a ms (K (!b)) ∧ PC T a ms (D (!b))
  lp:∀ b T a ms,Letter.parcel (hn (!b)) key T a ms ∈ laid b → PC T a ms (K b)
section
variable {key:Key} {K D:Bool → Row} {post:List Letter} {laid:Bool → List Letter} {R:List LRow} {F:Bool → List LRow} {A:Int} {M:List Mark}
theorem TI.setK (h:TI key K D post laid R F A M) (s:Bool) {x:Row} {fs:List LRow} {la:List Letter} (kl:Live x (D s) → Chain A M fs x.amt x.marks) (kf:¬ Live x (D s) → fs = [])
    (s1:x.turn = (D s).turn → (D s).st = .owes → x.st = .owes → Is x (D s).amt (D s).marks)
    (pp:∀ T a ms,Letter.parcel (hn (!s)) key T a ms ∈ post → PC T a ms (K s) → PC T a ms (D s) → PC T a ms x)
    (lp:∀ T a ms,Letter.parcel (hn (!s)) key T a ms ∈ la → PC T a ms x):TI key (upd K s x) D post (upd laid s la) R (upd F s fs) A M where
  ch:=h.ch
  dh:=h.dh
  dw:=h.dw
  kl:=both s (by rw [upd_self,upd_self]; exact kl) (by rw [upd_not,upd_not]; exact h.kl (!s))
  kf:=both s (by rw [upd_self,upd_self]; exact kf) (by rw [upd_not,upd_not]; exact h.kf (!s))
  s1:=both s (by rw [upd_self]; exact s1) (by rw [upd_not]; exact h.s1 (!s))
  pp:=both s (fun T a ms q=>by rw [upd_not]; exact h.pp s T a ms q) (fun T a ms q=>by
    have z:=h.pp (!s) T a ms q
    rw [not_not] at z ⊢
    rw [upd_self]
    exact ⟨pp T a ms q z.1 z.2,z.2⟩)
  lp:=both s (fun T a ms q=>by rw [upd_self] at q ⊢; exact lp T a ms q) (fun T a ms q=>by rw [upd_not] at q ⊢; exact h.lp (!s) T a ms q)
theorem TI.first (h:TI key K D post laid R F A M) (s:Bool) (hs:(K s).st = .here) {r:LRow} (g:Good (K s).amt (K s).marks r) {la:List Letter}:TI key (upd K s ⟨.here,(K s).turn,(dn (K s).amt r.w).1,stepM (K s).amt (K s).marks r⟩) D post (upd laid s la) R (upd F s (F s ++ [r])) A M :=
  h.setK s (fun _=>(h.kl s (.inl hs)).snoc g) (fun n=>absurd (.inl rfl) n) (fun _ _=>nofun) (fun _ _ _ _ _ _=>.here nofun) (fun _ _ _ _=>.here nofun)
theorem TI.move (h:TI key K D post laid R F A M) (k:KI key K D post laid) (s:Bool) (hs:(K s).st = .here):TI key (upd K s { K s with st:=.owes }) D post (upd laid s (laid s ++ [.parcel (hn (!s)) key ((K s).turn + 1) (K s).amt (K s).marks])) R (upd F s (F s)) A M :=
  h.setK s (fun _=>h.kl s (.inl hs))
    (fun n=>by
      refine absurd (.inr ⟨rfl,fun e=>?_⟩) n
      cases q:(D s).st with
      | here=>rfl
      | owes=>exact absurd hs ((k.side s).sm e (by rw [q]; decide))
      | gone=>exact absurd hs ((k.side s).sm e (by rw [q]; decide)))
    (fun e ho _=>absurd hs ((k.side s).sm e (by rw [ho]; decide)))
    (fun T a ms q _ _ e _=>by
      have:=(k.pp (!s) T a ms q).2
      rw [not_not] at this
      exact absurd hs (this.k e))
    (fun T a ms q e _=>by
      rcases List.mem_append.1 q with q | q
      · exact absurd hs ((k.lp s T a ms q).2.k e)
      · cases List.mem_singleton.1 q; exact ⟨rfl,rfl⟩)
theorem TI.parcel (h:TI key K D post laid R F A M) (k:KI key K D post laid) (s:Bool) {T a:Int} {ms:List Mark} (hm:Letter.parcel (hn s) key T a ms ∈ post) (ht:(K s).turn < T) {la:List Letter}:TI key (upd K s ⟨.here,T,a,ms⟩) D post (upd laid s la) R (upd F s (F s)) A M:=by
  obtain ⟨par,L⟩:=k.pp s T a ms hm
  have dw:=h.dw (!s)
  rw [not_not] at dw
  obtain ⟨rfl,rfl⟩:=parcel_is (k.side s) (k.oth s) par ht L (h.pp s T a ms hm).2 dw
  have nl:¬ Live (K s) (D s):=fun l=>by
    have h1:=l.lt (k.side s) (k.oth s); have h2:=L.tu; have h3:=(k.oth s).le
    lia
  exact h.setK s (fun _=>by rw [h.kf s nl]; exact .nil) (fun n=>absurd (.inl rfl) n) (fun _ _=>nofun) (fun _ _ _ _ _ _=>.here nofun) (fun _ _ _ _=>.here nofun)
theorem TI.taken (h:TI key K D post laid R F A M) (k:KI key K D post laid) (s:Bool) (hm:Letter.taken (hn s) key ((K s).turn + 1) ∈ post) {la:List Letter}:TI key (upd K s ⟨.gone,(K s).turn,0,[]⟩) D post (upd laid s la) R (upd F s (F s)) A M:=by
  have nl:¬ Live (K s) (D s):=fun l=>by
    have h1:=l.lt (k.side s) (k.oth s); have h2:=k.pt s _ hm; have h3:=(k.oth s).le
    lia
  refine h.setK s (fun l=>?_) (fun _=>h.kf s nl) (fun _ _=>nofun) (fun _ _ _ _ _ _=>.here nofun) (fun _ _ _ _=>.here nofun)
  rcases l with l | l
  · exact nomatch l
  · exact nomatch l.1
theorem TI.sleep (h:TI key K D post laid R F A M) (s:Bool):TI key (upd K s (D s)) D post (upd laid s []) R (upd F s []) A M :=
  h.setK s (fun l=>by obtain ⟨e1,e2⟩:=h.dh s (live_self l); rw [e1,e2]; exact .nil) (fun _=>rfl) (fun _ _ _=>⟨rfl,rfl⟩) (fun _ _ _ _ _ z=>z) (fun _ _ _ q=>(List.not_mem_nil q).elim)
theorem TI.quiet (h:TI key K D post laid R F A M) {post':List Letter} {laid':Bool → List Letter} (hp:∀ L ∈ post',L ∈ post ∨ Off key L) (hl:∀ b,∀ L ∈ laid' b,L ∈ laid b ∨ Off key L):TI key K D post' laid' R F A M :=
  ⟨h.ch,h.dh,h.dw,h.kl,h.kf,h.s1,fun b T a ms q=>(hp _ q).elim (h.pp b T a ms) fun o=>absurd rfl o,fun b T a ms q=>(hl b _ q).elim (h.lp b T a ms) fun o=>absurd rfl o⟩
theorem TI.nudge (h:TI key K D post laid R F A M) (s:Bool) (ho:(D s).st = .owes):TI key K D (post ++ [.parcel (hn (!s)) key ((D s).turn + 1) (D s).amt (D s).marks]) laid R F A M :=
  ⟨h.ch,h.dh,h.dw,h.kl,h.kf,h.s1,fun b T a ms q=>by
      rcases List.mem_append.1 q with q | q
      · exact h.pp b T a ms q
      · have e:=List.mem_singleton.1 q
        have eb:b = !s:=by
          have e1:hn b = hn (!s):=by injection e
          cases b <;> cases s <;> first | rfl | (exact absurd e1 (by decide))
        subst eb
        injection e with _ _ e3 e4 e5
        subst e3; subst e4; subst e5
        rw [not_not]
        exact ⟨fun e1 e2=>h.s1 s (by lia) ho e2,fun _ _=>⟨rfl,rfl⟩⟩,h.lp⟩
theorem TI.write (h:TI key K D post laid R F A M) (k:KI key K D post laid) (s:Bool) (hl:∀ L ∈ laid s,∀ b T a ms,L = .parcel (hn b) key T a ms → b = !s):∃ A' M',TI key K (upd D s (K s)) (post ++ laid s) (upd laid s []) (R ++ F s) (upd F s []) A' M':=by
  have gen:∀ A' M',Chain A M (F s) A' M' → ((K s).st = .here → Is (K s) A' M') → ((D (!s)).st = .here → Is (D (!s)) A' M') → ((K s).st = .owes → (D (!s)).turn ≤ (K s).turn → Is (K s) A' M') →
      ((D (!s)).st = .owes → (K s).turn ≤ (D (!s)).turn → Is (D (!s)) A' M') → (Live (K (!s)) (D (!s)) → Chain A' M' (F (!s)) (K (!s)).amt (K (!s)).marks) → TI key K (upd D s (K s)) (post ++ laid s) (upd laid s []) (R ++ F s) (upd F s []) A' M':=fun A' M' c h1 h2 h3 h4 h5 =>
    { ch:=h.ch.app c
      dh:=both s (by rw [upd_self]; exact h1) (by rw [upd_not]; exact h2)
      dw:=both s (by rw [upd_self,upd_not]; exact h3) (by rw [not_not,upd_self,upd_not]; exact h4)
      kl:=both s (by rw [upd_self,upd_self]; exact fun l=>by obtain ⟨e1,e2⟩:=h1 (live_self l); rw [e1,e2]; exact .nil) (by rw [upd_not,upd_not]; exact h5)
      kf:=both s (by rw [upd_self,upd_self]; exact fun _=>rfl) (by rw [upd_not,upd_not]; exact h.kf (!s))
      s1:=both s (by rw [upd_self]; exact fun _ _ _=>⟨rfl,rfl⟩) (by rw [upd_not]; exact h.s1 (!s))
      pp:=fun b T a ms q=>by
        rcases List.mem_append.1 q with q | q
        · have z:=h.pp b T a ms q
          refine ⟨z.1,?_⟩
          by_cases e:(!b) = s
          · rw [e,upd_self]; rw [e] at z; exact z.1
          · rw [upd_ne e]; exact z.2
        · have e:=hl _ q b T a ms rfl
          subst e
          have z:=h.lp s T a ms q
          rw [not_not,upd_self]
          exact ⟨z,z⟩
      lp:=both s (fun T a ms q=>by rw [upd_self] at q; exact (List.not_mem_nil q).elim) (fun T a ms q=>by rw [upd_not] at q; exact h.lp (!s) T a ms q) }
  have le:=(k.oth s).le
  by_cases l:Live (K s) (D s)
  · have lt:=l.lt (k.side s) (k.oth s)
    have nl:¬ Live (K (!s)) (D (!s)):=fun l2=>by have:=l2.lt (k.oth s) (by have:=k.side s; rwa [show (1:Int) - (1 - hn s) = hn s by lia]); lia
    exact ⟨_,_,gen _ _ (h.kl s l) (fun _=>⟨rfl,rfl⟩) (fun e=>by have:=(k.oth s).hd e; lia) (fun _ _=>⟨rfl,rfl⟩) (fun _ e=>by lia) (fun l2=>absurd l2 nl)⟩
  · refine ⟨A,M,gen A M (by rw [h.kf s l]; exact .nil) (fun e=>absurd (.inl e) l) (h.dh (!s)) (fun e1 e2=>?_) (fun e1 e2=>?_) (h.kl (!s))⟩
    · by_cases e:(K s).turn = (D s).turn
      · cases q:(D s).st with
        | here=>exact absurd (.inr ⟨e1,fun _=>q⟩) l
        | owes =>
          have i1:=h.s1 s e q e1
          have i2:=h.dw s q (by lia)
          exact ⟨i1.1.trans i2.1,i1.2.trans i2.2⟩
        | gone=>have:=(k.side s).gd q; lia
      · exact absurd (.inr ⟨e1,fun q=>absurd q e⟩) l
    · have:=h.dw (!s) e1
      rw [not_not] at this
      exact this (by have:=(k.side s).le; lia)
end
end Mine
end
section
namespace Mine
noncomputable abbrev TIh (key:Key) (h:Bool → HS) (post:List Letter) (rows:List LRow):Prop :=
 ∃ A M,TI key (fun b=>rowOf (h b).known key) (fun b=>rowOf (h b).written key) post (fun b=>(h b).laid) (rowsOf key rows) (fun b=>rowsOf key (h b).fresh) A M
section
variable {key:Key} {h:Bool → HS} {post:List Letter} {rows:List LRow} {b:Bool} {h':HS} {ks:List Key} {m:Nat} {A:Int} {M:List Mark}
theorem TIh.deed (q:TI key (upd (fun b=>rowOf (h b).known key) b (rowOf h'.known key)) (upd (fun b=>rowOf (h b).written key) b (rowOf h'.written key)) post (upd (fun b=>(h b).laid) b h'.laid) (rowsOf key rows) (upd (fun b=>rowsOf key (h b).fresh) b (rowsOf key h'.fresh)) A M):TIh key (upd h b h') post rows:=by
 refine ⟨A,M,?_⟩
 show TI key (fun k=>rowOf (upd h b h' k).known key) (fun k=>rowOf (upd h b h' k).written key) post (fun k=>(upd h b h' k).laid) (rowsOf key rows) (fun k=>rowsOf key (upd h b h' k).fresh) A M
 rw [upd_fun (fun x:HS=>rowOf x.known key),upd_fun (fun x:HS=>rowOf x.written key),upd_fun (fun x:HS=>x.laid),upd_fun (fun x:HS=>rowsOf key x.fresh)]
 exact q
theorem TIh.off (q:TIh key h post rows) (e1:rowOf h'.known key = rowOf (h b).known key) (e3:h'.written = (h b).written) (hl:∀ L ∈ h'.laid,L ∈ (h b).laid ∨ Off key L) (ef:rowsOf key h'.fresh = rowsOf key (h b).fresh):TIh key (upd h b h') post rows:=by
 obtain ⟨A,M,q⟩:=q
 refine TIh.deed (A:=A) (M:=M) ?_
 rw [e3,e1,ef,upd_id (fun b=>rowOf (h b).written key),upd_id (fun b=>rowOf (h b).known key),upd_id (fun b=>rowsOf key (h b).fresh)]
 exact q.quiet (fun L z=>.inl z) (upd_all (P:=fun k (l:List Letter)=>∀ L ∈ l,L ∈ (h k).laid ∨ Off key L) hl fun _ _ _ z=>.inl z)
theorem TIh.first (q:TIh key h post rows) {c n:Int} {k:Key} {w:W} {r:Row} (hk:kget k (h b).known = some r) (hs:r.st = .here) (hg:∀ p,mfind c r.marks = some p → p.1 < n):TIh key (upd h b ((h b).first c n k w r)) post rows:=by
 by_cases e:k = key
 ·subst e
  have hr:rowOf (h b).known k = r:=rowOf_some hk
  obtain ⟨A,M,q⟩:=q
  have q1:=TI.first q b (r:=⟨c,n,k,w,(dn r.amt w).2⟩) (la:=(h b).laid ++ [.answer c n (dn r.amt w).2]) (by show (rowOf (h b).known k).st = _; rw [hr]; exact hs) (by show Good (rowOf (h b).known k).amt (rowOf (h b).known k).marks _; rw [hr]; exact ⟨rfl,hg⟩)
  refine TIh.deed (A:=A) (M:=M) ?_
  show TI k (upd _ b (rowOf (kput k ⟨.here,r.turn,(dn r.amt w).1,mput (c,n,(dn r.amt w).2) r.marks⟩ (h b).known) k)) (upd (fun b=>rowOf (h b).written k) b (rowOf (h b).written k)) post (upd (fun b=>(h b).laid) b ((h b).laid ++ [.answer c n (dn r.amt w).2])) (rowsOf k rows) (upd (fun b=>rowsOf k (h b).fresh) b (rowsOf k ((h b).fresh ++ [⟨c,n,k,w,(dn r.amt w).2⟩]))) A M
  rw [rowOf_put,if_pos rfl,rows_app,rows_hit ⟨c,n,k,w,(dn r.amt w).2⟩,upd_id (fun b=>rowOf (h b).written k)]
  dsimp only at q1
  rw [hr] at q1
  exact q1
 ·refine TIh.off q ?_ rfl (fun L z=>(List.mem_append.1 z).imp id fun z=>by rw [List.mem_singleton.1 z]; exact trivial) ?_
  ·show rowOf (kput k _ (h b).known) key = _
   rw [rowOf_put,if_neg fun q=>e q.symm]
  ·show rowsOf key ((h b).fresh ++ [⟨c,n,k,w,(dn r.amt w).2⟩]) = _
   rw [rows_app,rows_miss (r:=⟨c,n,k,w,(dn r.amt w).2⟩) e,List.append_nil]
theorem TIh.called (q:TIh key h post rows) {c n:Int} {k:Key} {w:W} {r:Row} (hk:kget k (h b).known = some r) (hs:r.st = .here):TIh key (upd h b ((h b).called c n k w r)) post rows:=by
 unfold HS.called
 split
 ·rename_i p hp
  split
  ·rw [upd_id]; exact q
  ·split
   ·exact TIh.off q rfl rfl (fun L z=>(List.mem_append.1 z).imp id fun z=>by rw [List.mem_singleton.1 z]; exact trivial) rfl
   ·rename_i h1 h2
    exact q.first hk hs fun p' hp'=>by
     have e:p = p':=Option.some.inj (hp.symm.trans hp')
     subst e
     lia
 ·rename_i hp
  exact q.first hk hs fun p' hp'=>nomatch hp.symm.trans hp'
theorem TIh.came (q:TIh key h post rows) (ki:KIh key h post) (nu:(h b).num = hn b) {L:Letter} (hL:L ∈ post) (ha:toHouse b L):TIh key (upd h b ((h b).came L)) post rows:=by
 cases L with
 | answer=>exact ha.elim
 | call hh c n k w =>
  cases hk:kget k (h b).known with
  | none=>rw [came_call0 hk,upd_id]; exact q
  | some r =>
   rw [came_call hk]
   by_cases hs:r.st = .here
   ·rw [if_pos hs]; exact q.called hk hs
   ·rw [if_neg hs,upd_id]; exact q
 | parcel hh k T a ms =>
  have ha:hh = hn b:=ha
  subst ha
  cases hk:kget k (h b).known with
  | none=>rw [came_parcel0 hk,upd_id]; exact q
  | some r =>
   rw [came_parcel hk]
   by_cases ht:r.turn < T
   ·rw [if_pos ht]
    by_cases e:key = k
    ·subst e
     have hr:rowOf (h b).known key = r:=rowOf_some hk
     obtain ⟨A,M,q⟩:=q
     refine TIh.deed (A:=A) (M:=M) ?_
     show TI key (upd _ b (rowOf (kput key ⟨.here,T,a,ms⟩ (h b).known) key)) (upd (fun b=>rowOf (h b).written key) b (rowOf (h b).written key)) post (upd (fun b=>(h b).laid) b ((h b).laid ++ [.taken (1 - (h b).num) key T])) (rowsOf key rows) (upd (fun b=>rowsOf key (h b).fresh) b (rowsOf key (h b).fresh)) A M
     rw [upd_id (fun b=>rowOf (h b).written key),rowOf_put,if_pos rfl]
     exact TI.parcel q ki b hL (by show (rowOf (h b).known key).turn < T; rw [hr]; exact ht)
    ·exact TIh.off q (by show rowOf (kput k _ (h b).known) key = _; rw [rowOf_put,if_neg e]) rfl (fun L z=>(List.mem_append.1 z).imp id fun z=>by rw [List.mem_singleton.1 z]; exact fun q=>e q.symm) rfl
   ·rw [if_neg ht]
    obtain ⟨A,M,q⟩:=q
    refine TIh.deed (A:=A) (M:=M) ?_
    show TI key (upd (fun b=>rowOf (h b).known key) b (rowOf (h b).known key)) (upd (fun b=>rowOf (h b).written key) b (rowOf (h b).written key)) post (upd (fun b=>(h b).laid) b ((h b).laid ++ [.taken (1 - (h b).num) k T])) (rowsOf key rows) (upd (fun b=>rowsOf key (h b).fresh) b (rowsOf key (h b).fresh)) A M
    rw [upd_id (fun b=>rowOf (h b).written key),upd_id (fun b=>rowOf (h b).known key),upd_id (fun b=>rowsOf key (h b).fresh)]
    exact ⟨q.ch,q.dh,q.dw,q.kl,q.kf,q.s1,q.pp,upd_all (P:=fun i (l:List Letter)=>∀ T a ms,Letter.parcel (hn (!i)) key T a ms ∈ l → PC T a ms (rowOf (h i).known key)) (fun T' a' ms' z=>(List.mem_append.1 z).elim (q.lp b T' a' ms') fun z=>nomatch List.mem_singleton.1 z) fun i _=>q.lp i⟩
 | taken hh k T =>
  have ha:hh = hn b:=ha
  subst ha
  cases hk:kget k (h b).known with
  | none=>rw [came_taken0 hk,upd_id]; exact q
  | some r =>
   rw [came_taken hk]
   by_cases hs:r.st = .owes ∧ T = r.turn + 1
   ·rw [if_pos hs]
    by_cases e:key = k
    ·subst e
     have hr:rowOf (h b).known key = r:=rowOf_some hk
     obtain ⟨A,M,q⟩:=q
     have q1:=TI.taken q ki b (la:=(h b).laid) (by show Letter.taken (hn b) key ((rowOf (h b).known key).turn + 1) ∈ post; rw [hr,← hs.2]; exact hL)
     rw [hr] at q1
     refine TIh.deed (A:=A) (M:=M) ?_
     show TI key (upd _ b (rowOf (kput key ⟨.gone,r.turn,0,[]⟩ (h b).known) key)) (upd (fun b=>rowOf (h b).written key) b (rowOf (h b).written key)) post (upd (fun b=>(h b).laid) b (h b).laid) (rowsOf key rows) (upd (fun b=>rowsOf key (h b).fresh) b (rowsOf key (h b).fresh)) A M
     rw [upd_id (fun b=>rowOf (h b).written key),rowOf_put,if_pos rfl]
     exact q1
    ·exact TIh.off q (by show rowOf (kput k _ (h b).known) key = _; rw [rowOf_put,if_neg e]) rfl (fun L z=>.inl z) rfl
   ·rw [if_neg hs,upd_id]; exact q
theorem TIh.move (q:TIh key h post rows) (ki:KIh key h post) (nu:(h b).num = hn b) {k:Key} {r:Row} (hk:kget k (h b).known = some r) (hs:r.st = .here):TIh key (upd h b ((h b).move k r)) post rows:=by
 by_cases e:key = k
 ·subst e
  have hr:rowOf (h b).known key = r:=rowOf_some hk
  obtain ⟨A,M,q⟩:=q
  have q1:=TI.move q ki b (by show (rowOf (h b).known key).st = _; rw [hr]; exact hs)
  dsimp only at q1
  rw [hr] at q1
  refine TIh.deed (A:=A) (M:=M) ?_
  show TI key (upd _ b (rowOf (kput key { r with st:=.owes } (h b).known) key)) (upd (fun b=>rowOf (h b).written key) b (rowOf (h b).written key)) post (upd (fun b=>(h b).laid) b ((h b).laid ++ [.parcel (1 - (h b).num) key (r.turn + 1) r.amt r.marks])) (rowsOf key rows) (upd (fun b=>rowsOf key (h b).fresh) b (rowsOf key (h b).fresh)) A M
  rw [upd_id (fun b=>rowOf (h b).written key),nu,one_hn,rowOf_put,if_pos rfl]
  exact q1
 ·exact TIh.off q (by show rowOf (kput k _ (h b).known) key = _; rw [rowOf_put,if_neg e]) rfl (fun L z=>(List.mem_append.1 z).imp id fun z=>by rw [List.mem_singleton.1 z]; exact fun q=>e q.symm) rfl
theorem TIh.sleep (q:TIh key h post rows):TIh key (upd h b (h b).sleep) post rows:=by
 obtain ⟨A,M,q⟩:=q
 refine TIh.deed (A:=A) (M:=M) ?_
 show TI key (upd _ b (rowOf (h b).written key)) (upd (fun b=>rowOf (h b).written key) b (rowOf (h b).written key)) post (upd (fun b=>(h b).laid) b []) (rowsOf key rows) (upd (fun b=>rowsOf key (h b).fresh) b []) A M
 rw [upd_id (fun b=>rowOf (h b).written key)]
 exact TI.sleep q b
theorem TIh.write (q:TIh key h post rows) (ki:KIh key h post) (ha:∀ L ∈ (h b).laid,ForH (!b) L):TIh key (upd h b (h b).write) (post ++ (h b).laid) (rows ++ (h b).fresh):=by
 obtain ⟨A,M,q⟩:=q
 obtain ⟨A',M',q1⟩:=TI.write q ki b (fun L hL b' T a ms e=>by have:=ha L hL; rw [e] at this; exact hn_inj this)
 refine TIh.deed (A:=A') (M:=M') ?_
 show TI key (upd (fun b=>rowOf (h b).known key) b (rowOf (h b).known key)) (upd _ b (rowOf (h b).known key)) (post ++ (h b).laid) (upd (fun b=>(h b).laid) b []) (rowsOf key (rows ++ (h b).fresh)) (upd (fun b=>rowsOf key (h b).fresh) b []) A' M'
 rw [upd_id (fun b=>rowOf (h b).known key),rows_app]
 exact q1
theorem TIh.inPost (q:TIh key h post rows) {post':List Letter} (hp:∀ L ∈ post',L ∈ post ∨ Off key L):TIh key h post' rows:=by
 obtain ⟨A,M,q⟩:=q
 exact ⟨A,M,q.quiet hp fun _ _ z=>.inl z⟩
theorem TIh.nudges (nu:(h b).num = hn b):∀ (l:Known) (post:List Letter),TIh key h post rows → (∀ p ∈ l,kget p.1 (h b).written = some p.2 ∧ p.2.st = .owes) → TIh key h (post ++ l.map fun p=>parcelOf (h b).num p.1 p.2) rows
 | [],post,q,_=>by rw [List.map_nil,List.append_nil]; exact q
 | p :: l,post,q,hl=>by
  have hp:=hl p (List.mem_cons_self ..)
  rw [List.map_cons,show post ++ (parcelOf (h b).num p.1 p.2 :: l.map fun p=>parcelOf (h b).num p.1 p.2) = (post ++ [parcelOf (h b).num p.1 p.2]) ++ l.map fun p=>parcelOf (h b).num p.1 p.2 from (List.append_assoc post [parcelOf (h b).num p.1 p.2] _).symm]
  refine TIh.nudges nu l _ ?_ fun x hx=>hl x (List.mem_cons_of_mem _ hx)
  by_cases e:key = p.1
  ·have hr:rowOf (h b).written key = p.2:=by rw [e]; exact rowOf_some hp.1
   obtain ⟨A,M,q⟩:=q
   have q1:=TI.nudge q b (by show (rowOf (h b).written key).st = _; rw [hr]; exact hp.2)
   rw [hr,← one_hn,← nu] at q1
   refine ⟨A,M,?_⟩
   show TI key _ _ (post ++ [.parcel (1 - (h b).num) p.1 (p.2.turn + 1) p.2.amt p.2.marks]) _ _ _ A M
   rw [← e]
   exact q1
  ·refine TIh.inPost q fun L hL=>(List.mem_append.1 hL).imp id fun z=>?_
   rw [List.mem_singleton.1 z]
   exact fun q=>e q.symm
theorem TIh.nudge (q:TIh key h post rows) (nu:(h b).num = hn b) (nd:((h b).written.map (·.1)).Nodup):TIh key h (post ++ (h b).nudge) rows :=
 TIh.nudges nu _ post q fun p hp=>by
  obtain ⟨h1,h2⟩:=List.mem_filter.1 hp
  exact ⟨kget_nodup nd h1,of_decide_eq_true h2⟩
end
end Mine
end
section
namespace Mine
noncomputable abbrev Call:=Int × Int × Key × W
noncomputable def callV:Option Call → V
 | none=>.none
 | some g=>.tup [.int g.1,.int g.2.1,.str g.2.2.1,wv g.2.2.2]
noncomputable def LRow.call (r:LRow):Call:=(r.c,r.n,r.k,r.w)
inductive WStep (ks:List Key) (nc:Nat) (W:WS):Option Call → WS → Prop
 | same:WStep ks nc W none W
 | post (b:Bool) (i:Nat) (p:Int × Key × Mine.W) (hi:i < nc) (ho:(W.c i).op = some p):WStep ks nc W none { W with post:=W.post ++ [.call (hn b) i p.1 p.2.1 p.2.2] }
 | begin (i:Nat) (k:Key) (w:Mine.W) (hi:i < nc) (ho:(W.c i).op = none) (hk:k ∈ ks):WStep ks nc W (some ((i:Int),(W.c i).begun + 1,k,w)) { W with c:=updN W.c i ⟨(W.c i).begun + 1,some ((W.c i).begun + 1,k,w),(W.c i).closed⟩ }
 | came (b:Bool) (L:Letter) (hL:L ∈ W.post) (ha:toHouse b L):WStep ks nc W none { W with h:=upd W.h b ((W.h b).came L) }
 | answer (i:Nat) (n t:Int) (hi:i < nc) (hL:Letter.answer i n t ∈ W.post):WStep ks nc W none { W with c:=updN W.c i ((W.c i).came n t) }
 | erase (p:Nat):WStep ks nc W none { W with post:=W.post.eraseIdx p }
 | move (b:Bool) (k:Key) (r:Row) (hr:kget k (W.h b).known = some r) (hs:r.st = .here) (hk:k ∈ ks):WStep ks nc W none { W with h:=upd W.h b ((W.h b).move k r) }
 | sleep (b:Bool):WStep ks nc W none { W with h:=upd W.h b (W.h b).sleep }
 | nudge (b:Bool):WStep ks nc W none { W with post:=W.post ++ (W.h b).nudge }
 | write (b:Bool):WStep ks nc W none { W with h:=upd W.h b (W.h b).write,post:=W.post ++ (W.h b).laid,rows:=W.rows ++ (W.h b).fresh }
section
variable {ks:List Key} {nc m:Nat} {W W':WS} {o:Option Call} {G:List Call}
theorem WI.mono (a:WI ks nc m W):WI ks nc (m + 1) W:=a.setPost a.ki a.po (Nat.le_add_right _ _)
theorem WI.step (a:WI ks nc m W) (nd:ks.Nodup) (k6:ks.length ≤ 6) (h6:nc ≤ 6) (s:WStep ks nc W o W'):WI ks nc (m + 1) W':=by
 cases s with
 | same=>exact a.mono
 | post b i p hi ho=>exact a.post1 b hi p.1 ((a.co i hi).1 p ho) p.2.2
 | begin i k w hi ho hk=>exact a.caller i _ (fun p hp=>by cases hp; exact hk) (Nat.le_succ_of_le (a.co i hi).2)
 | came b L hL ha=>exact a.came h6 hL ha
 | answer i n t hi hL=>exact a.answer hi n t
 | erase p=>exact a.erase p
 | move b k r hr hs hk=>exact a.move hr hk
 | sleep b=>exact a.sleep b
 | nudge b=>exact a.nudge b nd k6
 | write b=>exact a.write b
set_option genCtorIdx false in
structure WJ (ks:List Key) (nc m:Nat) (W:WS) (G:List Call):Prop where
 wi:WI ks nc m W
 ti:∀ key ∈ ks,TIh key W.h W.post W.rows
 pb:∀ h c n k w,Letter.call h c n k w ∈ W.post → ((c,n,k,w):Call) ∈ G
 lb:∀ b h c n k w,Letter.call h c n k w ∈ (W.h b).laid → ((c,n,k,w):Call) ∈ G
 ob:∀ i,i < nc → ∀ p,(W.c i).op = some p → (((i:Int),p):Call) ∈ G
 fb:∀ b,∀ r ∈ (W.h b).fresh,r.call ∈ G
 rb:∀ r ∈ W.rows,r.call ∈ G
 gk:∀ g ∈ G,g.2.2.1 ∈ ks ∧ ∃ i:Nat,i < nc ∧ g.1 = i ∧ g.2.1 ≤ (W.c i).begun
 gu:∀ g ∈ G,∀ g' ∈ G,g.1 = g'.1 → g.2.1 = g'.2.1 → g = g'
set_option genCtorIdx false in
structure Mild (G:List Call) (x y:HS):Prop where
 la:∀ h c n k w,Letter.call h c n k w ∈ y.laid → Letter.call h c n k w ∈ x.laid
 fr:∀ r ∈ y.fresh,r ∈ x.fresh ∨ r.call ∈ G
theorem Mild.refl (x:HS):Mild G x x:=⟨fun _ _ _ _ _ q=>q,fun _ q=>.inl q⟩
theorem Mild.called {x:HS} {c n:Int} {k:Key} {w:Mine.W} {r:Row} (hg:((c,n,k,w):Call) ∈ G):Mild G x (x.called c n k w r):=by
 have la:∀ t,∀ h' c' n' k' w',Letter.call h' c' n' k' w' ∈ x.laid ++ [.answer c n t] → Letter.call h' c' n' k' w' ∈ x.laid:=fun t _ _ _ _ _ q=>(List.mem_append.1 q).elim id fun q=>nomatch List.mem_singleton.1 q
 have fi:Mild G x (x.first c n k w r):=⟨la _,fun r q=>(List.mem_append.1 q).imp id fun q=>by rw [List.mem_singleton.1 q]; exact hg⟩
 unfold HS.called
 split
 ·split
  ·exact .refl _
  ·split
   ·exact ⟨la _,fun _ q=>.inl q⟩
   ·exact fi
 ·exact fi
theorem Mild.came {x:HS} {L:Letter} (hg:∀ h c n k w,L = .call h c n k w → ((c,n,k,w):Call) ∈ G):Mild G x (x.came L):=by
 cases L with
 | answer=>exact .refl _
 | call hh c n k w =>
  cases hk:kget k x.known with
  | none=>rw [came_call0 hk]; exact .refl _
  | some r =>
   rw [came_call hk]
   split
   ·exact .called (hg _ _ _ _ _ rfl)
   ·exact .refl _
 | parcel hh k T a ms =>
  cases hk:kget k x.known with
  | none=>rw [came_parcel0 hk]; exact .refl _
  | some r=>rw [came_parcel hk]; exact ⟨fun _ _ _ _ _ q=>(List.mem_append.1 q).elim id fun q=>(nomatch List.mem_singleton.1 q),fun _ q=>.inl q⟩
 | taken hh k T =>
  cases hk:kget k x.known with
  | none=>rw [came_taken0 hk]; exact .refl _
  | some r =>
   rw [came_taken hk]
   split
   ·exact ⟨fun _ _ _ _ _ q=>q,fun _ q=>.inl q⟩
   ·exact .refl _
theorem WJ.house (a:WJ ks nc m W G) (b:Bool) {y:HS} (w:WI ks nc (m + 1) { W with h:=upd W.h b y }) (ti:∀ key ∈ ks,TIh key (upd W.h b y) W.post W.rows) (q:Mild G (W.h b) y):WJ ks nc (m + 1) { W with h:=upd W.h b y } G :=
 ⟨w,ti,a.pb,upd_all (P:=fun _ (h:HS)=>∀ hh c n k w,Letter.call hh c n k w ∈ h.laid → ((c,n,k,w):Call) ∈ G) (fun h c n k w z=>a.lb b h c n k w (q.la h c n k w z)) fun i _=>a.lb i,a.ob,
  upd_all (P:=fun _ (h:HS)=>∀ r ∈ h.fresh,r.call ∈ G) (fun r z=>(q.fr r z).elim (a.fb b r) id) fun i _=>a.fb i,a.rb,a.gk,a.gu⟩
theorem WJ.setPost (a:WJ ks nc m W G) {post':List Letter} (w:WI ks nc (m + 1) { W with post:=post' }) (ti:∀ key ∈ ks,TIh key W.h post' W.rows) (pb:∀ h c n k w,Letter.call h c n k w ∈ post' → ((c,n,k,w):Call) ∈ G):WJ ks nc (m + 1) { W with post:=post' } G :=
 ⟨w,ti,pb,a.lb,a.ob,a.fb,a.rb,a.gk,a.gu⟩
theorem begun_came (c:CS) (n t:Int):(c.came n t).begun = c.begun:=by
 unfold CS.came
 split
 ·split <;> rfl
 ·rfl
theorem op_came {c:CS} {n t:Int} {p:Int × Key × Mine.W} (h:(c.came n t).op = some p):c.op = some p:=by
 unfold CS.came at h
 split at h
 ·split at h
  ·cases h
  ·exact h
 ·exact h
theorem WJ.step (a:WJ ks nc m W G) (nd:ks.Nodup) (k6:ks.length ≤ 6) (h6:nc ≤ 6) (s:WStep ks nc W o W'):WJ ks nc (m + 1) W' (G ++ o.toList) ∧ ∃ more,W'.rows = W.rows ++ more:=by
 have w:=a.wi.step nd k6 h6 s
 have non:∀ {W':WS},WJ ks nc (m + 1) W' G → WJ ks nc (m + 1) W' (G ++ (none:Option Call).toList):=fun q=>by rw [show G ++ (none:Option Call).toList = G from List.append_nil G]; exact q
 have no:∃ more,W.rows = W.rows ++ more:=⟨[],(List.append_nil _).symm⟩
 cases s with
 | same=>exact ⟨non ⟨w,a.ti,a.pb,a.lb,a.ob,a.fb,a.rb,a.gk,a.gu⟩,no⟩
 | post b i p hi ho =>
  refine ⟨non (a.setPost w (fun key hk=>(a.ti key hk).inPost fun L q=>(List.mem_append.1 q).imp id fun z=>by rw [List.mem_singleton.1 z]; exact trivial) fun h c n k w q=>?_),no⟩
  rcases List.mem_append.1 q with q | q
  ·exact a.pb h c n k w q
  ·cases List.mem_singleton.1 q; exact a.ob i hi p ho
 | begin i k w' hi ho hk =>
  refine ⟨⟨w,a.ti,fun h c n k w q=>List.mem_append_left _ (a.pb h c n k w q),fun b h c n k w q=>List.mem_append_left _ (a.lb b h c n k w q),fun j hj p hp=>?_,fun b r q=>List.mem_append_left _ (a.fb b r q),fun r q=>List.mem_append_left _ (a.rb r q),fun g hg=>?_,fun g hg g' hg' e1 e2=>?_⟩,no⟩
  ·have hp:(if j = i then (⟨(W.c i).begun + 1,some ((W.c i).begun + 1,k,w'),(W.c i).closed⟩:CS) else W.c j).op = some p:=hp
   split at hp
   ·rename_i e; cases hp; rw [e]; exact List.mem_append_right _ (List.mem_singleton.2 rfl)
   ·exact List.mem_append_left _ (a.ob j hj p hp)
  ·rcases List.mem_append.1 hg with hg | hg
   ·obtain ⟨g1,j,g2,g3,g4⟩:=a.gk g hg
    refine ⟨g1,j,g2,g3,?_⟩
    show g.2.1 ≤ (if j = i then (⟨(W.c i).begun + 1,some ((W.c i).begun + 1,k,w'),(W.c i).closed⟩:CS) else W.c j).begun
    split
    ·rename_i e; rw [e] at g4; show _ ≤ (W.c i).begun + 1; lia
    ·exact g4
   ·cases List.mem_singleton.1 hg
    refine ⟨hk,i,hi,rfl,?_⟩
    show (W.c i).begun + 1 ≤ (if i = i then (⟨(W.c i).begun + 1,some ((W.c i).begun + 1,k,w'),(W.c i).closed⟩:CS) else W.c i).begun
    rw [if_pos rfl]; exact Int.le_refl _
  ·have old:∀ g ∈ G,g.1 = (i:Int) → g.2.1 ≠ (W.c i).begun + 1:=fun g hg e1 e2=>by
    obtain ⟨-,j,-,g3,g4⟩:=a.gk g hg
    have:j = i:=by lia
    subst this
    lia
   rcases List.mem_append.1 hg with hg | hg
   ·rcases List.mem_append.1 hg' with hg' | hg'
    ·exact a.gu g hg g' hg' e1 e2
    ·cases List.mem_singleton.1 hg'; exact absurd e2 (old g hg e1)
   ·rcases List.mem_append.1 hg' with hg' | hg'
    ·cases List.mem_singleton.1 hg; exact absurd e2.symm (old g' hg' e1.symm)
    ·rw [List.mem_singleton.1 hg,List.mem_singleton.1 hg']
 | came b L hL ha=>exact ⟨non (a.house b w (fun key hk=>(a.ti key hk).came (a.wi.ki key hk) (a.wi.nu b) hL ha) (.came fun h c n k w e=>a.pb h c n k w (e ▸ hL))),no⟩
 | answer i n t hi hL =>
  refine ⟨non ⟨w,a.ti,a.pb,a.lb,fun j hj p hp=>?_,a.fb,a.rb,fun g hg=>?_,a.gu⟩,no⟩
  ·have hp:(if j = i then (W.c i).came n t else W.c j).op = some p:=hp
   split at hp
   ·rename_i e; rw [e]; exact a.ob i hi p (op_came hp)
   ·exact a.ob j hj p hp
  ·obtain ⟨g1,j,g2,g3,g4⟩:=a.gk g hg
   refine ⟨g1,j,g2,g3,?_⟩
   show g.2.1 ≤ (if j = i then (W.c i).came n t else W.c j).begun
   split
   ·rename_i e; rw [begun_came,← e]; exact g4
   ·exact g4
 | erase p=>exact ⟨non (a.setPost w (fun key hk=>(a.ti key hk).inPost fun L q=>.inl (List.mem_of_mem_eraseIdx q)) fun h c n k w q=>a.pb h c n k w (List.mem_of_mem_eraseIdx q)),no⟩
 | move b k r hr hs hk=>exact ⟨non (a.house b w (fun key hkey=>(a.ti key hkey).move (a.wi.ki key hkey) (a.wi.nu b) hr hs) ⟨fun _ _ _ _ _ q=>(List.mem_append.1 q).elim id fun q=>(nomatch List.mem_singleton.1 q),fun _ q=>.inl q⟩),no⟩
 | sleep b=>exact ⟨non (a.house b w (fun key hkey=>(a.ti key hkey).sleep) ⟨fun _ _ _ _ _ q=>(List.not_mem_nil q).elim,fun _ q=>(List.not_mem_nil q).elim⟩),no⟩
 | nudge b =>
  refine ⟨non (a.setPost w (fun key hk=>(a.ti key hk).nudge (a.wi.nu b) (by rw [(a.wi.hi b).hw]; exact nd)) fun h c n k w q=>?_),no⟩
  rcases List.mem_append.1 q with q | q
  ·exact a.pb h c n k w q
  ·obtain ⟨p,-,e⟩:=List.mem_map.1 q; exact nomatch e
 | write b =>
  refine ⟨non ⟨w,fun key hk=>(a.ti key hk).write (a.wi.ki key hk) fun L hL=>(a.wi.la b L hL).2,fun h c n k w q=>(List.mem_append.1 q).elim (a.pb h c n k w) (a.lb b h c n k w),upd_all (P:=fun _ (h:HS)=>∀ hh c n k w,Letter.call hh c n k w ∈ h.laid → ((c,n,k,w):Call) ∈ G) (fun h c n k w z=>(List.not_mem_nil z).elim) fun i _=>a.lb i,a.ob,
   upd_all (P:=fun _ (h:HS)=>∀ r ∈ h.fresh,r.call ∈ G) (fun r z=>(List.not_mem_nil z).elim) fun i _=>a.fb i,fun r q=>(List.mem_append.1 q).elim (a.rb r) (a.fb b r),a.gk,a.gu⟩,_,rfl⟩
end
end Mine
end
section
namespace Mine
noncomputable def f_deed:Fn:=⟨4,["_law_world","_law_keys_here","_law_callers","_law_cell","_law_more","_law_house","_law_many","_law_caller","_law_key","_law_wish_here"],[.assign 4 (.bin .fdiv (.loc 3) (.int 16)),.assign 5 (.bin .mod (.loc 4) (.int 2)),.assign 6 (.prim .len [.meth (.loc 0) 19 []]),.ite (.cmp (.bin .mod (.loc 3) (.int 16)) .lt (.int 4)) [.assign 7 (.bin .mod (.bin .fdiv (.loc 4) (.int 2)) (.loc 2)),.ite (.isC true (.meth (.loc 0) 11 [.loc 7]) .none) [.expr (.meth (.loc 0) 18 [.loc 7,.loc 5]),.ret (some .none)] [],.assign 8 (.sub (.loc 1) (.bin .mod (.bin .fdiv (.loc 4) (.int 3)) (.prim .len [.loc 1]))),.assign 9 (.call 102 [.bin .fdiv (.bin .mul (.bin .add (.loc 3) (.int 5)) (.int 48271)) (.int 11)]),.ret (some (.tup [.loc 7,.meth (.loc 0) 17 [.loc 7,.loc 5,.loc 8,.loc 9],.loc 8,.loc 9]))] [],.ite (.and [.cmp (.bin .mod (.loc 3) (.int 16)) .lt (.int 8),.cmp (.loc 6) .gt (.int 0)]) [.expr (.meth (.loc 0) 21 [.sub (.lst [.int 0,.bin .sub (.loc 6) (.int 1),.bin .mod (.loc 4) (.loc 6),.bin .mod (.loc 4) (.loc 6)]) (.bin .sub (.bin .mod (.loc 3) (.int 16)) (.int 4))])] [.ite (.and [.cmp (.bin .mod (.loc 3) (.int 16)) .eq (.int 8),.cmp (.loc 6) .gt (.int 0)]) [.expr (.meth (.loc 0) 22 [.bin .mod (.loc 4) (.loc 6)])] [.ite (.and [.cmp (.bin .mod (.loc 3) (.int 16)) .eq (.int 9),.cmp (.loc 6) .gt (.int 0)]) [.expr (.meth (.loc 0) 23 [.bin .mod (.loc 4) (.loc 6)])] [.ite (.and [.cmp (.bin .mod (.loc 3) (.int 16)) .eq (.int 10),.isC true (.meth (.loc 0) 24 [.sub (.loc 1) (.bin .mod (.loc 4) (.prim .len [.loc 1]))]) .none]) [.expr (.meth (.loc 0) 5 [.sub (.loc 1) (.bin .mod (.loc 4) (.prim .len [.loc 1]))])] [.ite (.cmp (.bin .mod (.loc 3) (.int 16)) .eq (.int 14)) [.expr (.meth (.loc 0) 7 [.loc 5])] [.ite (.cmp (.bin .mod (.loc 3) (.int 16)) .eq (.int 15)) [.expr (.meth (.loc 0) 8 [.loc 5])] [.ite (.cmp (.bin .mod (.loc 3) (.int 16)) .gt (.int 10)) [.expr (.meth (.loc 0) 6 [.loc 5])] []]]]]]],.ret (some .none)]⟩
set_option genCtorIdx false in
structure DeedP (P:Prog):Prop where
 beg:P.fns 11 = some f_Caller_begin
 cca:P.fns 13 = some f_Caller_came
 nwi:∃ xc,P.fns 1 = some (f_need_wish xc)
 cal:∃ xc,P.fns 45 = some (f_World_call xc)
 aga:∃ xc,P.fns 46 = some (f_World_again xc)
 lts:P.fns 47 = some f_World_letters
 han:P.fns 49 = some f_World_hand
 twi:P.fns 50 = some f_World_twice
 los:P.fns 51 = some f_World_lose
 hom:P.fns 52 = some f_World_home
 mov:∃ xc,P.fns 53 = some (f_World_move xc)
 hmo:∃ xc,P.fns 26 = some (f_House_move xc)
 wri:P.fns 55 = some f_World_write
 hwr:P.fns 27 = some f_House_write
 sle:P.fns 56 = some f_World_sleep
 hsl:P.fns 28 = some f_House_sleep
 nud:P.fns 57 = some f_World_nudge
 hnu:P.fns 29 = some f_House_nudge
 ask:P.fns 59 = some f_World_asking
 wis:P.fns 102 = some f_wish
 w5:P.meths 0 5 = some 53
 w6:P.meths 0 6 = some 55
 w7:P.meths 0 7 = some 56
 w8:P.meths 0 8 = some 57
 w11:P.meths 0 11 = some 59
 w17:P.meths 0 17 = some 45
 w18:P.meths 0 18 = some 46
 w19:P.meths 0 19 = some 47
 w21:P.meths 0 21 = some 49
 w22:P.meths 0 22 = some 50
 w23:P.meths 0 23 = some 51
 w24:P.meths 0 24 = some 52
 h5:P.meths 1 5 = some 26
 h6:P.meths 1 6 = some 27
 h7:P.meths 1 7 = some 28
 h8:P.meths 1 8 = some 29
 c2:P.meths 2 2 = some 13
section
variable {ks:List Key} {nc m:Nat} {W:WS} {x:Bool → HIx} {u u1 t:MS} {o:Option Call}
noncomputable def DD (ks:List Key) (nc:Nat) (W:WS) (u:MS) (o:Option Call) (t:MS):Prop:=∃ W1 W2 x,WStep ks nc W o W1 ∧ WStep ks nc W1 none W2 ∧ WAt t ks W2 x ∧ Fr NWp u t
theorem DD.pre (f:Fr NWp u u1) (d:DD ks nc W u1 o t):DD ks nc W u o t:=by
 obtain ⟨W1,W2,x,h1,h2,h3,h4⟩:=d
 exact ⟨W1,W2,x,h1,h2,h3,f.trans h4⟩
theorem DD.one {W1:WS} (h1:WStep ks nc W o W1) (A:WAt t ks W1 x) (f:Fr NWp u t):DD ks nc W u o t:=⟨W1,W1,x,h1,.same,A,f⟩
theorem let_house (a:WI ks nc m W) (h6:nc ≤ 6) {L:Letter} (hL:L ∈ W.post):(∃ b,toHouse b L ∧ LOk (W.h b) L) ∨ ∃ (i:Nat) (n t:Int),i < nc ∧ L = .answer i n t:=by
 have h:=a.po L hL
 cases L with
 | answer c n t=>obtain ⟨i,hi,rfl⟩:=h; exact .inr ⟨i,n,t,hi,rfl⟩
 | call hh c n k w =>
  obtain ⟨⟨b,rfl⟩,⟨i,hi,rfl⟩,hk⟩:=h
  obtain ⟨r,hr,-⟩:=(a.hi b).get hk
  exact .inl ⟨b,rfl,by lia,by lia,r,hr⟩
 | parcel hh k T am ms =>
  obtain ⟨⟨b,rfl⟩,hk,-⟩:=h
  obtain ⟨r,hr,-⟩:=(a.hi b).get hk
  exact .inl ⟨b,rfl,r,hr⟩
 | taken hh k T =>
  obtain ⟨⟨b,rfl⟩,hk⟩:=h
  obtain ⟨r,hr,-⟩:=(a.hi b).get hk
  exact .inl ⟨b,rfl,r,hr⟩
theorem hz (a:WI ks nc m W) (K:KeysFine ks) (hm:m < 1000000) (b:Bool):HZ (W.h b):=(a.hi b).z (by lia) K.six
theorem nw_new {k:Nat} (h:11 ≤ k) (o:MObj):Fr NW u (u.new k o):=(Fr.refl _ _).new _ _
variable {P:Prog} (H:WorldP P) (HP:HouseP P) (D:DeedP P)
include H D
theorem go_lose (n:Nat) (A:WAt u ks W x) {p:Nat} (hp:p < W.post.length):OkR (run P (n + 5) 51 [.ref (1,0),.int p] u) fun v t=>v = .none ∧ DD ks nc W u none t:=by
 obtain ⟨t,e,q,f⟩:=run_lose H D.los (n + 2) A hp
 exact okr_of e ⟨rfl,.one (.erase p) q f⟩
include HP
theorem go_hand (n:Nat) (A:WAt u ks W x) (a:WI ks nc m W) (K:KeysFine ks) (h6:nc ≤ 6) (hm:m < 1000000) {p:Nat} (hp:p < W.post.length) :
  OkR (run P (n + 5) 49 [.ref (1,0),.int p] u) fun v t=>v = .none ∧ DD ks nc W u none t:=by
 have hL:W.post[p] ∈ W.post:=List.getElem_mem hp
 rcases let_house a h6 hL with ⟨b,h1,h2⟩ | ⟨i,num,told,hi,e⟩
 ·refine okr_mono (run_handG H D.han n A hp (W':={ W with post:=W.post.eraseIdx p,h:=upd W.h b ((W.h b).came W.post[p]) }) fun t At=>run_brought H HP n At h1 (hz a K hm b) (a.hi b).kk h2) ?_
  rintro v t ⟨rfl,q,f⟩
  exact ⟨rfl,_,_,_,.came b _ hL h1,.erase p,q,f⟩
 ·refine okr_mono (run_handG H D.han n A hp (W':={ W with post:=W.post.eraseIdx p,c:=updN W.c i ((W.c i).came num told) }) fun t At=>by
   rw [e]; exact run_broughtA H D.cca D.c2 n At (by rw [← a.nc_] at hi; exact hi) num told (by have:=(a.co i hi).2; show (W.c i).closed.length < _; lia)) ?_
  rintro v t ⟨rfl,q,f⟩
  exact ⟨rfl,_,_,_,.answer i num told hi (e ▸ hL),.erase p,q,f⟩
theorem go_twice (n:Nat) (A:WAt u ks W x) (a:WI ks nc m W) (K:KeysFine ks) (h6:nc ≤ 6) (hm:m < 1000000) {p:Nat} (hp:p < W.post.length) :
  OkR (run P (n + 5) 50 [.ref (1,0),.int p] u) fun v t=>v = .none ∧ DD ks nc W u none t:=by
 have hL:W.post[p] ∈ W.post:=List.getElem_mem hp
 rcases let_house a h6 hL with ⟨b,h1,h2⟩ | ⟨i,num,told,hi,e⟩
 ·refine okr_mono (run_twiceG H D.twi n A hp (run_brought H HP n A h1 (hz a K hm b) (a.hi b).kk h2)) ?_
  rintro v t ⟨rfl,q,f⟩
  exact ⟨rfl,.one (.came b _ hL h1) q f⟩
 ·refine okr_mono (run_twiceG H D.twi n A hp (W':={ W with c:=updN W.c i ((W.c i).came num told) }) (by
   rw [e]; exact run_broughtA H D.cca D.c2 n A (by rw [← a.nc_] at hi; exact hi) num told (by have:=(a.co i hi).2; lia))) ?_
  rintro v t ⟨rfl,q,f⟩
  exact ⟨rfl,.one (.answer i num told hi (e ▸ hL)) q f⟩
theorem go_sleep (n:Nat) (A:WAt u ks W x) (a:WI ks nc m W) (K:KeysFine ks) (hm:m < 1000000) (b:Bool):OkR (run P (n + 5) 56 [.ref (1,0),.int (hn b)] u) fun v t=>v = .none ∧ DD ks nc W u none t:=by
 refine okr_mono (run_wsleep H HP D.hsl D.h7 D.sle (n + 2) A b (hz a K hm b)) ?_
 rintro v t ⟨rfl,⟨x',q⟩,f⟩
 exact ⟨rfl,.one (.sleep b) q f⟩
theorem go_nudge (n:Nat) (A:WAt u ks W x) (a:WI ks nc m W) (K:KeysFine ks) (hm:m < 1000000) (b:Bool):OkR (run P (n + 5) 57 [.ref (1,0),.int (hn b)] u) fun v t=>v = .none ∧ DD ks nc W u none t:=by
 obtain ⟨t,e,q,f⟩:=run_wnudge H HP D.hnu D.h8 D.nud (n + 2) A b (hz a K hm b) (by rw [(a.hi b).hw]; exact K.nd) (by have:=nudge_len (a.hi b); have:=K.six; have:=a.pl; lia)
 exact okr_of e ⟨rfl,.one (.nudge b) q f⟩
omit H D HP in
theorem laid_len (a:WI ks nc m W) (b:Bool):W.post.length + (W.h b).laid.length ≤ 8 * m ∧ W.rows.length + (W.h b).fresh.length ≤ m:=by
 have h1:=a.pl
 have h2:=a.rl
 cases b <;> constructor <;> lia
theorem go_write (n:Nat) (A:WAt u ks W x) (a:WI ks nc m W) (K:KeysFine ks) (hm:m < 1000000) (b:Bool):OkR (run P (n + 5) 55 [.ref (1,0),.int (hn b)] u) fun v t=>v = .none ∧ DD ks nc W u none t:=by
 have hl:=laid_len a b
 refine okr_mono (run_wwrite H HP D.hwr D.h6 D.wri (n + 2) A b (hz a K hm b) (by lia) (by lia)) ?_
 rintro v t ⟨rfl,⟨x',q⟩,f⟩
 exact ⟨rfl,.one (.write b) q f⟩
theorem go_move (n:Nat) (A:WAt u ks W x) (a:WI ks nc m W) (K:KeysFine ks) (hm:m < 1000000) {key:Key} (hk:key ∈ ks) {b:Bool} {r:Row} (hv:homeV W key = .int (hn b)) (hr:kget key (W.h b).known = some r) (hs:r.st = .here):OkR (run P (n + 5) 53 [.ref (1,0),.str key] u) fun v t=>v = .none ∧ DD ks nc W u none t:=by
 obtain ⟨xc,e1⟩:=D.mov
 obtain ⟨yc,e2⟩:=D.hmo
 refine okr_mono (run_wmove H HP e2 D.hom D.w24 D.h5 e1 (n + 1) A hk b hv (hz a K hm b) hr hs) ?_
 rintro v t ⟨rfl,q,f⟩
 exact ⟨rfl,.one (.move b key r hr hs hk) q f⟩
omit H D HP in
theorem home_is (a:WI ks nc m W) {key:Key} (hk:key ∈ ks):(homeV W key = .none ∧ (W.h false).has key = false ∧ (W.h true).has key = false) ∨ ∃ b r,homeV W key = .int (hn b) ∧ kget key (W.h b).known = some r ∧ r.st = .here:=by
 have row:∀ b,(W.h b).has key = true → ∃ r,kget key (W.h b).known = some r ∧ r.st = .here:=fun b h=>by
  obtain ⟨r,hr,-⟩:=(a.hi b).get hk
  rw [HS.has,hr] at h
  exact ⟨r,hr,of_decide_eq_true h⟩
 cases c0:(W.h false).has key with
 | true =>
  obtain ⟨r,h1,h2⟩:=row false c0
  exact .inr ⟨false,r,by rw [homeV,if_pos c0,a.nu false],h1,h2⟩
 | false =>
  cases c1:(W.h true).has key with
  | true =>
   obtain ⟨r,h1,h2⟩:=row true c1
   exact .inr ⟨true,r,by rw [homeV,c0,c1]; show V.int (W.h true).num = _; rw [a.nu true],h1,h2⟩
  | false=>exact .inl ⟨by rw [homeV,c0,c1]; rfl,rfl,rfl⟩
omit H D HP in
theorem house_num (more:Int):more.fmod 2 = hn (decide (more.fmod 2 = 1)):=by
 obtain ⟨h1,h2⟩:=fmod_range more 2 (by decide)
 by_cases h:more.fmod 2 = 1
 ·rw [decide_eq_true h]; exact h
 ·rw [decide_eq_false h]; show _ = (0:Int); lia
noncomputable abbrev loc0 (ks:List Key) (nc:Nat) (cell more:Int) (b:Bool) (N:Nat) (a c d:Option V):Loc:=[some (.ref (1,0)),some (.lst (ks.map .str)),some (.int nc),some (.int cell),some (.int more),some (.int (hn b)),some (.int N),a,c,d]
omit H D HP in
theorem ev_key (n:Nat) (K:KeysFine ks) {cell more:Int} {b:Bool} {N:Nat} {l1 l2 l3:Option V} (e:E) (k:Int) (he:∀ u,ev P (run P n) e (loc0 ks nc cell more b N l1 l2 l3) u = .ok (.int k) u):∃ key,key ∈ ks ∧ ∀ u,ev P (run P n) (.sub (.loc 1) (.bin .mod e (.prim .len [.loc 1]))) (loc0 ks nc cell more b N l1 l2 l3) u = .ok (.str key) u:=by
 have hl:(ks.map V.str).length = ks.length:=List.length_map ..
 obtain ⟨p,hp,ep⟩:=fmod_nat k (N:=(ks.map V.str).length) (by rw [hl]; exact K.pos)
 have hp':p < ks.length:=by rw [hl] at hp; exact hp
 refine ⟨ks[p],List.getElem_mem _,fun u=>?_⟩
 have e1:=i_seq (s:=u) (a:=.lst (ks.map .str)) (k:=true) rfl p hp
 rw [show (ks.map V.str)[p] = V.str ks[p] from List.getElem_map ..,← ep] at e1
 exact e_sub (x:=.lst (ks.map .str)) (y:=.int (k.fmod (ks.map V.str).length)) rfl (e_bin (x:=.int k) (y:=.int (ks.map V.str).length) (he u) rfl (if_neg (by have:=K.pos; rw [hl]; omega))) e1
omit H D HP in
theorem b_fm (k:Int) {N p:Nat} (h:0 < N) (e:k.fmod (N:Int) = p) (s:MS):binOp .mod (.int k) (.int (N:Nat)) s = .ok (.int p) s:=by
 have h0:¬ ((N:Int) = 0):=by lia
 show (if (N:Int) = 0 then Res.stuck else Res.ok (V.int (k.fmod (N:Int))) s) = _
 rw [if_neg h0,e]
omit H D HP in
theorem ev_mod (n:Nat) {cell more:Int} {b:Bool} {N:Nat} {l1 l2 l3:Option V} (h:0 < N):∃ p:Nat,p < N ∧ ∀ u,ev P (run P n) (.bin .mod (.loc 4) (.loc 6)) (loc0 ks nc cell more b N l1 l2 l3) u = .ok (.int p) u:=by
 obtain ⟨p,hp,ep⟩:=fmod_nat more h
 exact ⟨p,hp,fun u=>e_bin (x:=.int more) (y:=.int N) rfl rfl (b_fm more h ep u)⟩
theorem run_deed {fd:Nat} (hfd:P.fns fd = some f_deed) (n:Nat) (A:WAt u ks W x) (a:WI ks nc m W) (K:KeysFine ks) (h1:1 ≤ nc) (h6:nc ≤ 6) (hm:m < 1000000) (cell:Int):OkR (run P (n + 6) fd [.ref (1,0),.lst (ks.map .str),.int nc,.int cell] u) fun v t=>∃ o,v = callV o ∧ DD ks nc W u o t:=by
 refine okr_run hfd rfl ?_
 refine st_assign (v:=.int (cell.fdiv 16)) (s':=u) rfl rfl ?_
 generalize cell.fdiv 16 = more
 refine st_assign (v:=.int (hn (decide (more.fmod 2 = 1)))) (s':=u) (congrArg (fun q=>Res.ok (V.int q) u) (house_num more)) rfl ?_
 generalize decide (more.fmod 2 = 1) = b
 have el:=run_wletters H D.lts (n + 4) A
 have g1:(u.new 11 (.list (W.post.map letV))).heap (11,u.cnt 11) = some (.list (W.post.map letV)):=new_self _ _ _
 have f1:Fr NWp u (u.new 11 (.list (W.post.map letV))):=(Fr.refl _ _).new _ _
 have A1:=A.step (nw_new (k:=11) (by decide) (.list (W.post.map letV)))
 refine st_assign (v:=.int (W.post.length:Nat)) (s':=u.new 11 (.list (W.post.map letV))) (e_prim (e_cons (e_meth (x:=.ref (1,0)) (vs:=[]) rfl ((meth_of A.o).trans D.w19) rfl el) rfl) ((len_seq (seq_ref g1)).trans (by rw [List.length_map]))) rfl ?_
 generalize u.new 11 (.list (W.post.map letV)) = u1 at A1 f1
 show OkR (exs P _ _ _ (loc0 ks nc cell more b W.post.length none none none) u1) _
 have hr:=fmod_range cell 16 (by decide)
 have hpl:=a.pl
 have fin:∀ (L:Loc) t,DD ks nc W u1 none t → OkR (exs P (run P (n + 5)) (n + 5) [.ret (some .none)] L t) fun p t=>∃ o,flV p.1 = callV o ∧ DD ks nc W u o t:=fun L t q=>st_ret (v:=.none) (s':=t) rfl ⟨none,rfl,q.pre f1⟩
 by_cases hlt:cell.fmod 16 < 4
 ·refine st_if (t:=true) (s':=u1) (congrArg (fun q=>Res.ok (V.bool q) u1) (decide_eq_true hlt)) ?_
  obtain ⟨i,hi,ei⟩:=fmod_nat (more.fdiv 2) (N:=nc) (by lia)
  have hi':i < W.nc:=by rw [a.nc_]; exact hi
  refine st_assign (v:=.int i) (s':=u1) (e_bin (x:=.int (more.fdiv 2)) (y:=.int nc) rfl rfl (b_fm (more.fdiv 2) (by lia) ei u1)) rfl ?_
  show OkR (exs P _ _ _ (loc0 ks nc cell more b W.post.length (some (.int i)) none none) u1) _
  have ea:ev P (run P (n + 5)) (.meth (.loc 0) 11 [.loc 7]) (loc0 ks nc cell more b W.post.length (some (.int i)) none none) u1 = .ok (opV (W.c i).op) u1:=e_meth (x:=.ref (1,0)) (vs:=[.int i]) rfl ((meth_of A1.o).trans D.w11) rfl (run_wasking H D.ask (n + 2) A1 hi')
  cases hop:(W.c i).op with
  | some p =>
   rw [hop] at ea
   obtain ⟨xc,hag⟩:=D.aga
   obtain ⟨t,e2,A2,f2⟩:=run_wagain H hag (n + 2) A1 hi' b hop (by lia)
   refine st_if (t:=true) (s':=u1) (e_isN (g:=true) (t:=false) ea (decide_eq_false nofun)) ?_
   exact st_expr (e_meth (x:=.ref (1,0)) (vs:=[.int i,.int (hn b)]) rfl ((meth_of A1.o).trans D.w18) rfl e2) (st_ret (v:=.none) (s':=t) rfl ⟨none,rfl,.pre f1 (.one (.post b i p hi hop) A2 f2)⟩)
  | none =>
   rw [hop] at ea
   refine st_if (t:=false) (s':=u1) (e_isN (g:=true) (t:=true) ea (decide_eq_true rfl)) (st_next ?_)
   obtain ⟨key,hk,ek⟩:=ev_key (nc:=nc) (n + 5) K (cell:=cell) (more:=more) (b:=b) (N:=W.post.length) (l1:=some (.int i)) (l2:=none) (l3:=none) (.bin .fdiv (.loc 4) (.int 3)) (more.fdiv 3) (fun u=>rfl)
   refine st_assign (ek u1) rfl ?_
   refine st_assign (e_call (e_cons (e_bin (x:=.int ((cell + 5) * 48271)) (y:=.int 11) (e_bin (x:=.int (cell + 5)) (y:=.int 48271) rfl rfl (b_mulR _ _ _ (by decide) (by decide))) rfl rfl) rfl) (run_wish D.wis (n + 4) _ u1)) rfl ?_
   have hw:=wish_ok (((cell + 5) * 48271).fdiv 11)
   generalize wishOf (((cell + 5) * 48271).fdiv 11) = w at hw
   obtain ⟨xc,hca⟩:=D.cal
   obtain ⟨yc,hnw⟩:=D.nwi
   obtain ⟨t,e2,A2,f2⟩:=run_wcall H D.beg hnw hca (n + 2) A1 hi' b hk (run_need H hnw (n + 2) w hw u1) hop (by lia)
   show OkR (exs P _ _ _ (loc0 ks nc cell more b W.post.length (some (.int i)) (some (.str key)) (some (wv w))) u1) _
   refine st_ret (e_tup (e_cons rfl (e_cons (e_meth (x:=.ref (1,0)) (vs:=[.int i,.int (hn b),.str key,wv w]) rfl ((meth_of A1.o).trans D.w17) rfl e2) (e_cons rfl (e_cons rfl rfl)))) rfl) ⟨some ((i:Int),(W.c i).begun + 1,key,w),rfl,.pre f1 ⟨_,_,_,.begin i key w hi hop hk,.post b i ((W.c i).begun + 1,key,w) hi (by show (if i = i then _ else _:CS).op = _; rw [if_pos rfl]),A2,f2⟩⟩
 ·refine st_if (t:=false) (s':=u1) (congrArg (fun q=>Res.ok (V.bool q) u1) (decide_eq_false hlt)) (st_next ?_)
  have same:DD ks nc W u1 none u1:=.one .same A1 (.refl _ _)
  have yes:∀ (e:E),ev P (run P (n + 5)) e (loc0 ks nc cell more b W.post.length none none none) u1 = .ok (.bool true) u1 → 0 < W.post.length → ev P (run P (n + 5)) (.and [e,.cmp (.loc 6) .gt (.int 0)]) (loc0 ks nc cell more b W.post.length none none none) u1 = .ok (.bool true) u1:=fun e h1 h2=>e_andT h1 (e_and1 (congrArg (fun q=>Res.ok (V.bool q) u1) (decide_eq_true (by lia:(0:Int) < (W.post.length:Nat)))))
  have non:∀ (e:E) (c:Bool),ev P (run P (n + 5)) e (loc0 ks nc cell more b W.post.length none none none) u1 = .ok (.bool c) u1 → (c = false ∨ ¬ 0 < W.post.length) → ev P (run P (n + 5)) (.and [e,.cmp (.loc 6) .gt (.int 0)]) (loc0 ks nc cell more b W.post.length none none none) u1 = .ok (.bool false) u1:=fun e c h1 h2=>by
   cases c with
   | false=>exact e_andF h1
   | true=>exact e_andT h1 (e_and1 (congrArg (fun q=>Res.ok (V.bool q) u1) (decide_eq_false (by have:=h2.resolve_left nofun; lia:¬ (0:Int) < (W.post.length:Nat)))))
  have dn:∀ {P Q:Prop} [Decidable P],¬ (P ∧ Q) → (decide P = false ∨ ¬ Q):=fun {P Q} _ h=>by
   by_cases hp:P
   ·exact .inr fun q=>h ⟨hp,q⟩
   ·exact .inl (decide_eq_false hp)
  by_cases q1:cell.fmod 16 < 8 ∧ 0 < W.post.length
  ·refine st_if (t:=true) (s':=u1) (yes _ (congrArg (fun q=>Res.ok (V.bool q) u1) (decide_eq_true q1.1)) q1.2) ?_
   obtain ⟨p,hp,ep⟩:=ev_mod (ks:=ks) (nc:=nc) (n + 5) (cell:=cell) (more:=more) (b:=b) (l1:=none) (l2:=none) (l3:=none) q1.2
   obtain ⟨k,hk,ek⟩:∃ k:Nat,k < W.post.length ∧ getItem (.lst [.int 0,.int ((W.post.length:Nat) - 1),.int p,.int p]) (.int (cell.fmod 16 - 4)) u1 = .ok (.int k) u1:=by
    have:cell.fmod 16 = 4 ∨ cell.fmod 16 = 5 ∨ cell.fmod 16 = 6 ∨ cell.fmod 16 = 7:=by lia
    rcases this with e | e | e | e <;> rw [e]
    ·exact ⟨0,q1.2,rfl⟩
    ·exact ⟨W.post.length - 1,by lia,congrArg (fun q=>Res.ok (V.int q) u1) (by have:=q1.2; lia)⟩
    ·exact ⟨p,hp,rfl⟩
    ·exact ⟨p,hp,rfl⟩
   have epl:ev P (run P (n + 5)) (.sub (.lst [.int 0,.bin .sub (.loc 6) (.int 1),.bin .mod (.loc 4) (.loc 6),.bin .mod (.loc 4) (.loc 6)]) (.bin .sub (.bin .mod (.loc 3) (.int 16)) (.int 4))) (loc0 ks nc cell more b W.post.length none none none) u1 = .ok (.int k) u1 :=
    e_sub (e_lst (vs:=[.int 0,.int ((W.post.length:Nat) - 1),.int p,.int p]) (e_cons rfl (e_cons rfl (e_cons (ep u1) (e_cons (ep u1) rfl)))) rfl) (y:=.int (cell.fmod 16 - 4)) rfl ek
   refine st_exprQ (e_methQ (x:=.ref (1,0)) (vs:=[.int k]) rfl ((meth_of A1.o).trans D.w21) (e_cons epl rfl) (go_hand H HP D n A1 a K h6 hm hk)) ?_
   rintro v t ⟨rfl,q⟩
   exact st_next (fin _ _ q)
  refine st_if (t:=false) (s':=u1) (non _ _ rfl (dn q1)) ?_
  by_cases q2:cell.fmod 16 = 8 ∧ 0 < W.post.length
  ·refine st_if (t:=true) (s':=u1) (yes _ (congrArg (fun q=>Res.ok (V.bool q) u1) (decide_eq_true q2.1)) q2.2) ?_
   obtain ⟨p,hp,ep⟩:=ev_mod (ks:=ks) (nc:=nc) (n + 5) (cell:=cell) (more:=more) (b:=b) (l1:=none) (l2:=none) (l3:=none) q2.2
   refine st_exprQ (e_methQ (x:=.ref (1,0)) (vs:=[.int p]) rfl ((meth_of A1.o).trans D.w22) (e_cons (ep u1) rfl) (go_twice H HP D n A1 a K h6 hm hp)) ?_
   rintro v t ⟨rfl,q⟩
   exact st_next (st_next (fin _ _ q))
  refine st_if (t:=false) (s':=u1) (non _ _ rfl (dn q2)) ?_
  by_cases q3:cell.fmod 16 = 9 ∧ 0 < W.post.length
  ·refine st_if (t:=true) (s':=u1) (yes _ (congrArg (fun q=>Res.ok (V.bool q) u1) (decide_eq_true q3.1)) q3.2) ?_
   obtain ⟨p,hp,ep⟩:=ev_mod (ks:=ks) (nc:=nc) (n + 5) (cell:=cell) (more:=more) (b:=b) (l1:=none) (l2:=none) (l3:=none) q3.2
   refine st_exprQ (e_methQ (x:=.ref (1,0)) (vs:=[.int p]) rfl ((meth_of A1.o).trans D.w23) (e_cons (ep u1) rfl) (go_lose (nc:=nc) H D n A1 hp)) ?_
   rintro v t ⟨rfl,q⟩
   exact st_next (st_next (st_next (fin _ _ q)))
  refine st_if (t:=false) (s':=u1) (non _ _ rfl (dn q3)) ?_
  obtain ⟨key,hk,ek⟩:=ev_key (nc:=nc) (n + 5) K (cell:=cell) (more:=more) (b:=b) (N:=W.post.length) (l1:=none) (l2:=none) (l3:=none) (.loc 4) more (fun u=>rfl)
  have eh:ev P (run P (n + 5)) (.meth (.loc 0) 24 [.sub (.loc 1) (.bin .mod (.loc 4) (.prim .len [.loc 1]))]) (loc0 ks nc cell more b W.post.length none none none) u1 = .ok (homeV W key) u1:=e_meth (x:=.ref (1,0)) (vs:=[.str key]) rfl ((meth_of A1.o).trans D.w24) (e_cons (ek u1) rfl) (run_home H HP D.hom (n + 2) A1 hk)
  by_cases q4:cell.fmod 16 = 10
  ·have e10:ev P (run P (n + 5)) (.cmp (.bin .mod (.loc 3) (.int 16)) .eq (.int 10)) (loc0 ks nc cell more b W.post.length none none none) u1 = .ok (.bool true) u1:=congrArg (fun q=>Res.ok (V.bool q) u1) (decide_eq_true q4)
   rcases home_is a hk with ⟨hn0,-⟩ | ⟨c,r,hv,hr',hs⟩
   ·rw [hn0] at eh
    refine st_if (t:=false) (s':=u1) (e_andT e10 (e_and1 (e_isN (g:=true) (t:=true) eh (decide_eq_true rfl)))) ?_
    refine st_if (t:=false) (s':=u1) (congrArg (fun q=>Res.ok (V.bool q) u1) (decide_eq_false (by lia))) (st_if (t:=false) (s':=u1) (congrArg (fun q=>Res.ok (V.bool q) u1) (decide_eq_false (by lia))) (st_if (t:=false) (s':=u1) (congrArg (fun q=>Res.ok (V.bool q) u1) (decide_eq_false (by lia))) ?_))
    exact st_next (st_next (st_next (st_next (st_next (st_next (st_next (fin _ _ same)))))))
   ·rw [hv] at eh
    refine st_if (t:=true) (s':=u1) (e_andT e10 (e_and1 (e_isN (g:=true) (t:=false) eh (decide_eq_false nofun)))) ?_
    refine st_exprQ (e_methQ (x:=.ref (1,0)) (vs:=[.str key]) rfl ((meth_of A1.o).trans D.w5) (e_cons (ek u1) rfl) (go_move H HP D n A1 a K hm hk hv hr' hs)) ?_
    rintro v t ⟨rfl,q⟩
    exact st_next (st_next (st_next (st_next (fin _ _ q))))
  refine st_if (t:=false) (s':=u1) (e_andF (congrArg (fun q=>Res.ok (V.bool q) u1) (decide_eq_false q4))) ?_
  by_cases q5:cell.fmod 16 = 14
  ·refine st_if (t:=true) (s':=u1) (congrArg (fun q=>Res.ok (V.bool q) u1) (decide_eq_true q5)) (st_exprQ (e_methQ (x:=.ref (1,0)) (vs:=[.int (hn b)]) rfl ((meth_of A1.o).trans D.w7) rfl (go_sleep H HP D n A1 a K hm b)) ?_)
   rintro v t ⟨rfl,q⟩
   exact st_next (st_next (st_next (st_next (st_next (fin _ _ q)))))
  refine st_if (t:=false) (s':=u1) (congrArg (fun q=>Res.ok (V.bool q) u1) (decide_eq_false q5)) ?_
  by_cases q6:cell.fmod 16 = 15
  ·refine st_if (t:=true) (s':=u1) (congrArg (fun q=>Res.ok (V.bool q) u1) (decide_eq_true q6)) (st_exprQ (e_methQ (x:=.ref (1,0)) (vs:=[.int (hn b)]) rfl ((meth_of A1.o).trans D.w8) rfl (go_nudge H HP D n A1 a K hm b)) ?_)
   rintro v t ⟨rfl,q⟩
   exact st_next (st_next (st_next (st_next (st_next (st_next (fin _ _ q))))))
  refine st_if (t:=false) (s':=u1) (congrArg (fun q=>Res.ok (V.bool q) u1) (decide_eq_false q6)) ?_
  by_cases q7:10 < cell.fmod 16
  ·refine st_if (t:=true) (s':=u1) (congrArg (fun q=>Res.ok (V.bool q) u1) (decide_eq_true q7)) (st_exprQ (e_methQ (x:=.ref (1,0)) (vs:=[.int (hn b)]) rfl ((meth_of A1.o).trans D.w6) rfl (go_write H HP D n A1 a K hm b)) ?_)
   rintro v t ⟨rfl,q⟩
   exact st_next (st_next (st_next (st_next (st_next (st_next (st_next (fin _ _ q)))))))
  exact st_if (t:=false) (s':=u1) (congrArg (fun q=>Res.ok (V.bool q) u1) (decide_eq_false q7)) (st_next (st_next (st_next (st_next (st_next (st_next (st_next (fin _ _ same))))))))
end
end Mine
end
section
namespace Mine
theorem mfind_mins (x:Mark) (c:Int):∀ l:List Mark,(∀ m ∈ l,m.1 ≠ x.1) → mfind c (mins x l) = if c = x.1 then some x.2 else mfind c l
 | [],_=>by
  show (if x.1 = c then some x.2 else none) = if c = x.1 then some x.2 else none
  by_cases h:c = x.1
  ·rw [if_pos h,if_pos h.symm]
  ·rw [if_neg h,if_neg fun e=>h e.symm]
 | m :: l,hn=>by
  have ih:=mfind_mins x c l fun q hq=>hn q (List.mem_cons_of_mem _ hq)
  have hm:=hn m (List.mem_cons_self ..)
  rw [mins]
  by_cases h1:x.1 < m.1
  ·rw [if_pos h1,mfind]
   by_cases h:c = x.1
   ·rw [if_pos h,if_pos h.symm]
   ·rw [if_neg h,if_neg fun e=>h e.symm]
  ·rw [if_neg h1,mfind,mfind,ih]
   by_cases h2:m.1 = c
   ·rw [if_pos h2,if_pos h2,if_neg fun e=>hm (h2.trans e)]
   ·rw [if_neg h2,if_neg h2]
theorem mfind_filter {c c':Int} (h:c' ≠ c):∀ l:List Mark,mfind c' (l.filter fun m=>!decide (m.1 = c)) = mfind c' l
 | []=>rfl
 | m :: l=>by
  have ih:=mfind_filter h l
  by_cases h1:m.1 = c
  ·rw [List.filter_cons,if_neg (by rw [decide_eq_true h1]; exact Bool.false_ne_true),mfind,if_neg fun e=>h (e.symm.trans h1)]; exact ih
  ·rw [List.filter_cons,if_pos (by rw [decide_eq_false h1]; rfl),mfind,mfind,ih]
theorem mfind_mput (c:Int) (x:Mark) (ms:List Mark):mfind c (mput x ms) = if c = x.1 then some x.2 else mfind c ms:=by
 rw [mput,mfind_mins _ _ _ (not_mem_filter ms x.1)]
 by_cases h:c = x.1
 ·rw [if_pos h,if_pos h]
 ·rw [if_neg h,if_neg h,mfind_filter h]
theorem Chain.keep {c a':Int} {ms':List Mark}:∀ {l:List LRow} {a:Int} {ms:List Mark} {p:Int × Int},Chain a ms l a' ms' → mfind c ms = some p → ∃ p',mfind c ms' = some p' ∧ p.1 ≤ p'.1
 | [],_,_,p,⟨_,e⟩,h=>⟨p,by rw [e]; exact h,Int.le_refl _⟩
 | r :: l,a,ms,p,⟨g,ch⟩,h=>by
  have e:=mfind_mput c (r.c,r.n,(dn a r.w).2) ms
  by_cases hc:c = r.c
  ·rw [if_pos hc] at e
   obtain ⟨p',h1,h2⟩:=ch.keep (c:=c) e
   have:=g.2 p (by rw [← hc]; exact h)
   have h2:r.n ≤ p'.1:=h2
   exact ⟨p',h1,by lia⟩
  ·rw [if_neg hc] at e
   exact ch.keep (c:=c) (e.trans h)
theorem Chain.has {a':Int} {ms':List Mark} {r:LRow}:∀ {l:List LRow} {a:Int} {ms:List Mark},Chain a ms l a' ms' → r ∈ l → ∃ p,mfind r.c ms' = some p ∧ r.n ≤ p.1
 | x :: l,a,ms,⟨g,ch⟩,h=>by
  rcases List.mem_cons.1 h with rfl | h
  ·exact ch.keep (c:=r.c) (p:=(r.n,(dn a r.w).2)) ((mfind_mput r.c (r.c,r.n,(dn a r.w).2) ms).trans (if_pos rfl))
  ·exact ch.has h
theorem Chain.split {a':Int} {ms':List Mark} {r:LRow} {l':List LRow}:∀ {l:List LRow} {a:Int} {ms:List Mark},Chain a ms (l ++ r :: l') a' ms' → ∃ a1 m1,Chain a ms l a1 m1 ∧ Good a1 m1 r
 | [],a,ms,⟨g,_⟩=>⟨a,ms,.nil,g⟩
 | x :: l,a,ms,⟨g,ch⟩=>by
  obtain ⟨a1,m1,h1,h2⟩:=Chain.split (l:=l) ch
  exact ⟨a1,m1,⟨g,h1⟩,h2⟩
noncomputable def amF:Int → List LRow → Int
 | a,[]=>a
 | a,r :: l=>amF (dn a r.w).1 l
theorem Chain.amt {a':Int} {ms':List Mark}:∀ {l:List LRow} {a:Int} {ms:List Mark},Chain a ms l a' ms' → a' = amF a l
 | [],_,_,⟨e,_⟩=>e
 | _ :: _,_,_,⟨_,ch⟩=>ch.amt
theorem amF_snoc (r:LRow):∀ (l:List LRow) (a:Int),amF a (l ++ [r]) = (dn (amF a l) r.w).1
 | [],_=>rfl
 | _ :: l,_=>amF_snoc r l _
noncomputable def am (key:Key) (Q:List LRow):Int:=amF 0 (rowsOf key Q)
theorem am_snoc (key:Key) (Q:List LRow) (r:LRow):am key (Q ++ [r]) = if key = r.k then (dn (am r.k Q) r.w).1 else am key Q:=by
 rw [am,rows_app]
 by_cases h:key = r.k
 ·subst h; rw [rows_hit,amF_snoc,if_pos rfl]; rfl
 ·rw [rows_miss fun e=>h e.symm,List.append_nil,if_neg h]; rfl
theorem row_ok {ks:List Key} {nc m:Nat} {W:WS} {G:List Call} (J:WJ ks nc m W G) {Q Rm:List LRow} {r:LRow} (e:W.rows = Q ++ r :: Rm):r.call ∈ G ∧ r.told = (dn (am r.k Q) r.w).2 ∧ ∀ r' ∈ Q,¬ (r'.c = r.c ∧ r'.n = r.n):=by
 have hr:r.call ∈ G:=J.rb r (by rw [e]; exact List.mem_append_right _ (List.mem_cons_self ..))
 obtain ⟨A,M,t⟩:=J.ti r.k (J.gk _ hr).1
 have ch:=t.ch
 rw [e,rows_app,show rowsOf r.k (r :: Rm) = r :: rowsOf r.k Rm from List.filter_cons_of_pos (decide_eq_true rfl)] at ch
 obtain ⟨a1,m1,h1,h2,h3⟩:=ch.split
 refine ⟨hr,by rw [h2,h1.amt]; rfl,fun r' hr' q=>?_⟩
 have hc:=J.gu _ (J.rb r' (by rw [e]; exact List.mem_append_left _ hr')) _ hr q.1 q.2
 have hk:r'.k = r.k:=congrArg (fun g:Call=>g.2.2.1) hc
 obtain ⟨p,p1,p2⟩:=h1.has (r:=r') (List.mem_filter.2 ⟨hr',decide_eq_true hk⟩)
 have:=h3 p (by rw [← q.1]; exact p1)
 have:=q.2
 lia
theorem WJ.new {ks:List Key} (nd:ks.Nodup) (nc:Nat):WJ ks nc 0 (W0 ks nc) [] where
 wi:=WI.new nd nc
 ti:=fun key hk=>by
  have e:∀ b,rowOf (HS.new (hn b) ks).known key = row0 (hn b):=fun b=>by
   refine rowOf_some (kget_nodup ?_ ?_)
   ·rw [new_known (hn b) nd,List.map_map]; exact (List.map_id ks).symm ▸ nd
   ·rw [new_known (hn b) nd]; exact List.mem_map.2 ⟨key,hk,rfl⟩
  have e':∀ b,rowOf (HS.new (hn b) ks).written key = row0 (hn b):=e
  have hs:∀ b,Live (row0 (hn b)) (row0 (hn b)) → Is (row0 (hn b)) 0 []:=fun b _=>by cases b <;> exact ⟨rfl,rfl⟩
  have ho:∀ b,(row0 (hn b)).st ≠ .owes:=fun b=>by cases b <;> decide
  refine ⟨0,[],.nil,fun b=>?_,fun b=>?_,fun b=>?_,fun b _=>rfl,fun b=>?_,fun b T a ms q=>(List.not_mem_nil q).elim,fun b T a ms q=>(List.not_mem_nil q).elim⟩
  ·show (rowOf (HS.new (hn b) ks).written key).st = .here → Is (rowOf (HS.new (hn b) ks).written key) 0 []
   rw [e']; exact fun q=>hs b (.inl q)
  ·show (rowOf (HS.new (hn b) ks).written key).st = .owes → _
   rw [e']; exact fun q=>absurd q (ho b)
  ·show Live (rowOf (HS.new (hn b) ks).known key) (rowOf (HS.new (hn b) ks).written key) → Chain 0 [] [] (rowOf (HS.new (hn b) ks).known key).amt (rowOf (HS.new (hn b) ks).known key).marks
   rw [e,e']; exact fun l=>by obtain ⟨e1,e2⟩:=hs b l; rw [e1,e2]; exact .nil
  ·show _ → (rowOf (HS.new (hn b) ks).written key).st = .owes → _
   rw [e']; exact fun _ q=>absurd q (ho b)
 pb:=fun _ _ _ _ _ q=>(List.not_mem_nil q).elim
 lb:=fun _ _ _ _ _ _ q=>(List.not_mem_nil q).elim
 ob:=fun i hi p hp=>nomatch hp
 fb:=fun _ _ q=>(List.not_mem_nil q).elim
 rb:=fun _ q=>(List.not_mem_nil q).elim
 gk:=fun _ q=>(List.not_mem_nil q).elim
 gu:=fun _ q=>(List.not_mem_nil q).elim
end Mine
end
section
namespace Mine.L13
open Mine
noncomputable def f_law_ledger_right:Fn:=⟨2,["_law_world","_law_begun","_law_found","_law_amounts","_law_seen","_law_row","_law_amount","_law_told"],[.assign 2 (.meth (.loc 0) 25 []),.ite (.not (.isinst (.loc 2) [.list])) [.ret (some (.bool false))] [],.assign 3 (.dictM 31 [] []),.assign 4 (.lstM 40 []),.for_ (.inl (.loc 5)) false (.loc 2) [.ite (.or [.not (.isinst (.loc 5) [.tuple]),.cmp (.prim .len [.loc 5]) .ne (.int 5),.cmp (.slice (.loc 5) none (some (.int 4))) .notin (.loc 1),.cmp (.slice (.loc 5) none (some (.int 2))) .isin (.loc 4)]) [.ret (some (.bool false))] [],.expr (.bm .append (.loc 4) [.slice (.loc 5) none (some (.int 2))]),.unpack [.loc 6,.loc 7] (.call 104 [.bm .get (.loc 3) [.sub (.loc 5) (.int 2),.int 0],.sub (.loc 5) (.int 3)]),.setitem (.loc 3) (.sub (.loc 5) (.int 2)) (.loc 6),.ite (.not (.call 101 [.loc 5,.bin .add (.slice (.loc 5) none (some (.int 4))) (.tup [.loc 7])])) [.ret (some (.bool false))] []],.expr (.bm .append (.loc 2) [.str [109,111,114,101]]),.ret (some (.cmp (.prim .len [.meth (.loc 0) 25 []]) .eq (.prim .len [.loc 4])))]⟩
noncomputable def f_law:Fn:=⟨1,["_law_script","_law_keys_here","_law_callers","_law_world","_law_begun","_law_cell","_law_ahead"],[.assign 1 (.call 103 [.call 100 [.loc 0,.int 0]]),.assign 2 (.bin .add (.int 1) (.bin .mod (.call 100 [.loc 0,.int 1]) (.int 6))),.assign 3 (.new 0 [.prim .list1 [.loc 1],.loc 2]),.assign 4 (.lstM 33 []),.for_ (.inl (.loc 5)) false (.slice (.loc 0) (some (.int 2)) (some (.int 32))) [.expr (.bm .append (.loc 4) [.call 121 [.loc 3,.loc 1,.loc 2,.loc 5]])],.ite (.not (.call 122 [.loc 3,.loc 4])) [.ret (some (.bool false))] [],.assign 6 (.meth (.loc 3) 25 []),.for_ (.inl (.loc 5)) false (.slice (.loc 0) (some (.int 32)) (some (.int 62))) [.expr (.bm .append (.loc 4) [.call 121 [.loc 3,.loc 1,.loc 2,.loc 5]])],.ret (some (.and [.call 122 [.loc 3,.loc 4],.cmp (.slice (.meth (.loc 3) 25 []) none (some (.prim .len [.loc 6]))) .eq (.loc 6)]))]⟩
noncomputable def fnl:List (Nat × Fn):=[(0,Mine.f_is_whole),(1,(Mine.f_need_wish 5)),(2,Mine.f_done),(4,Mine.f_is_key),(5,(Mine.f_need_world 1)),(10,Mine.f_Caller_init),(11,Mine.f_Caller_begin),(12,Mine.f_Caller_letter),(13,Mine.f_Caller_came),(14,Mine.f_Caller_asking),(20,Mine.f_House_init),(21,Mine.f_House_has),(23,Mine.f_House_came),(24,Mine.f_House_called),(25,Mine.f_House_parcel),(26,(Mine.f_House_move 8)),(27,Mine.f_House_write),(28,Mine.f_House_sleep),(29,Mine.f_House_nudge),(40,Mine.f_World_init),(41,(Mine.f_World_need_caller 2)),(42,(Mine.f_World_need_house 3)),(43,(Mine.f_World_need_key 4)),(44,(Mine.f_World_need_place 9)),(45,(Mine.f_World_call 6)),(46,(Mine.f_World_again 7)),(47,Mine.f_World_letters),(48,Mine.f_World_brought),(49,Mine.f_World_hand),(50,Mine.f_World_twice),(51,Mine.f_World_lose),(52,Mine.f_World_home),(53,(Mine.f_World_move 8)),(55,Mine.f_World_write),(56,Mine.f_World_sleep),(57,Mine.f_World_nudge),(58,Mine.f_World_ledger),(59,Mine.f_World_asking),(100,Mine.f_cell),(101,(Mine.f_alike 101)),(102,Mine.f_wish),(103,Mine.f_keys),(104,Mine.fl_done),(118,f_law),(121,Mine.f_deed),(122,f_law_ledger_right)]
noncomputable def mel:List ((Nat × Nat) × Nat):=[((2,9),11),((2,10),12),((2,2),13),((2,11),14),((1,0),21),((1,1),22),((1,2),23),((1,3),24),((1,4),25),((1,5),26),((1,6),27),((1,7),28),((1,8),29),((0,13),41),((0,14),42),((0,15),43),((0,16),44),((0,17),45),((0,18),46),((0,19),47),((0,20),48),((0,21),49),((0,22),50),((0,23),51),((0,24),52),((0,5),53),((0,0),54),((0,6),55),((0,7),56),((0,8),57),((0,25),58),((0,11),59),((0,1),61)]
noncomputable def inl:List (Nat × (Nat × Nat)):=[(2,3,10),(1,2,20),(0,1,40)]
noncomputable def fnn:List (Nat × PySem.Str):=[(0,"is_whole"),(1,"need_wish"),(2,"done"),(4,"is_key"),(5,"need_world"),(100,"_law_cell_at"),(101,"_law_alike"),(102,"_law_wish"),(103,"_law_keys"),(104,"_law_done"),(118,"law"),(121,"_law_deed"),(122,"_law_ledger_right")]
noncomputable def xbl:List (Nat × List Nat):=[]
noncomputable def xsl:List (PySem.Str × Nat):=[]
noncomputable def xfl:List Nat:=[]
noncomputable def xml:List Nat:=[]
noncomputable def qfl:List Nat:=[]
noncomputable def prog:Prog:=⟨fun f=>fnl.lookup f,fun c m=>mel.lookup (c,m),fun c=>inl.lookup c,fun c=>(xbl.lookup c).getD []⟩
end Mine.L13
end
section
namespace Mine.L13
open Mine
theorem hHP:HouseP prog:=⟨rfl,rfl,rfl,rfl,rfl,rfl,rfl,rfl,rfl,rfl,rfl⟩
theorem wp:WorldP prog:=⟨rfl,⟨_,rfl⟩,⟨_,rfl⟩,⟨_,rfl⟩,⟨_,rfl⟩,rfl,rfl,rfl,rfl,rfl,rfl,rfl,rfl,rfl,rfl,rfl⟩
theorem dp:DeedP prog:=⟨rfl,rfl,⟨_,rfl⟩,⟨_,rfl⟩,⟨_,rfl⟩,rfl,rfl,rfl,rfl,rfl,⟨_,rfl⟩,⟨_,rfl⟩,rfl,rfl,rfl,rfl,rfl,rfl,rfl,rfl,rfl,rfl,rfl,rfl,rfl,rfl,rfl,rfl,rfl,rfl,rfl,rfl,rfl,rfl,rfl,rfl,rfl⟩
theorem p_cell:prog.fns 100 = some f_cell:=rfl
theorem p_alike:prog.fns 101 = some (f_alike 101):=rfl
theorem p_keys:prog.fns 103 = some f_keys:=rfl
theorem p_done:prog.fns 104 = some fl_done:=rfl
section
variable {s:MS}
theorem zc {f:V → V → Option Bool} {x y:V} {la lb:List V} {p q:Bool} (h1:f x y = some p) (h2:zipAll f la lb = some q):zipAll f (x :: la) (y :: lb) = some (p && q):=by
 show (match f x y,zipAll f la lb with | some p,some q=>some (p && q) | _,_=>none) = _
 rw [h1,h2]
theorem q_int (d:Nat) (i:Int):veq s (d + 1) (.int i) (.int i) = some true:=congrArg some (decide_eq_true rfl)
theorem q_str (d:Nat) (k:Key):veq s (d + 1) (.str k) (.str k) = some true:=congrArg some (decide_eq_true rfl)
theorem q_w (d:Nat) (w:W):veq s (d + 2) (wv w) (wv w) = some true:=by
 cases w with
 | get=>rfl
 | set i =>
  show zipAll (veq s (d + 1)) [.str _,.int i] [.str _,.int i] = some (true && (true && true))
  exact zc (q_str d _) (zc (q_int d i) rfl)
 | add i =>
  show zipAll (veq s (d + 1)) [.str _,.int i] [.str _,.int i] = some (true && (true && true))
  exact zc (q_str d _) (zc (q_int d i) rfl)
theorem t_w (d:Nat) (w w':W):∃ q,veq s (d + 2) (wv w) (wv w') = some q:=by
 cases w <;> cases w' <;> exact ⟨_,rfl⟩
theorem q_call (d:Nat) (g:Call):veq s (d + 3) (callV (some g)) (callV (some g)) = some true:=zc (q_int _ _) (zc (q_int _ _) (zc (q_str _ _) (zc (q_w d _) rfl)))
theorem t_call (d:Nat) (o:Option Call) (g:Call):∃ q,veq s (d + 3) (callV o) (callV (some g)) = some q:=by
 cases o with
 | none=>exact ⟨false,rfl⟩
 | some a =>
  obtain ⟨q,hq⟩:=t_w (s:=s) d a.2.2.2 g.2.2.2
  exact ⟨_,zc rfl (zc rfl (zc rfl (zc hq rfl)))⟩
theorem q_lrow (d:Nat) (r:LRow):veq s (d + 3) (lrowV r) (lrowV r) = some true:=zc (q_int _ _) (zc (q_int _ _) (zc (q_str _ _) (zc (q_w d _) (zc (q_int _ _) rfl))))
theorem vin_cons {x y:V} {l:List V} {p q:Bool} (h1:veq s eqDeep y x = some p) (h2:vin s x l = some q):vin s x (y :: l) = some (p || q):=by
 show (match veq s eqDeep y x,vin s x l with | some p,some q=>some (p || q) | _,_=>none) = _
 rw [h1,h2]
theorem vin_call (g:Call):∀ (bl:List (Option Call)),∃ q,vin s (callV (some g)) (bl.map callV) = some q ∧ (some g ∈ bl → q = true)
 | []=>⟨false,rfl,fun h=>nomatch h⟩
 | o :: bl=>by
  obtain ⟨q,h1,h2⟩:=vin_call g bl
  by_cases e:o = some g
  ·subst e
   exact ⟨_,vin_cons (q_call 9 g) h1,fun _=>rfl⟩
  ·obtain ⟨p,hp⟩:=t_call (s:=s) 9 o g
   exact ⟨_,vin_cons hp h1,fun h=>by rw [h2 ((List.mem_cons.1 h).resolve_left fun q=>e q.symm),Bool.or_true]⟩
noncomputable def pairV (r:LRow):V:=.tup [.int r.c,.int r.n]
theorem vin_pair (r:LRow):∀ (Q:List LRow),(∀ r' ∈ Q,¬ (r'.c = r.c ∧ r'.n = r.n)) → vin s (pairV r) (Q.map pairV) = some false
 | [],_=>rfl
 | r' :: Q,h=>by
  have e:veq s eqDeep (pairV r') (pairV r) = some (decide (r'.c = r.c) && (decide (r'.n = r.n) && true)):=rfl
  have hn:=h r' (List.mem_cons_self ..)
  have e2:(decide (r'.c = r.c) && (decide (r'.n = r.n) && true)) = false:=by
   by_cases h1:r'.c = r.c
   ·rw [decide_eq_true h1,decide_eq_false fun h2=>hn ⟨h1,h2⟩]; rfl
   ·rw [decide_eq_false h1]; rfl
  rw [e2] at e
  exact vin_cons e (vin_pair r Q fun r' hr=>h r' (List.mem_cons_of_mem _ hr))
theorem memb_ref {r:Lbl} {l:List V} {x:V} {q:Bool} (h:s.heap r = some (.list l)) (hq:vin s x l = some q):cmpOp.memb x (.ref r) s = some q:=by
 rw [cmpOp.memb,seq_ref h]; exact hq
theorem c_in {r:Lbl} {l:List V} {x:V} {q:Bool} (h:s.heap r = some (.list l)) (hq:vin s x l = some q):cmpOp .isin x (.ref r) s = .ok (.bool q) s:=by
 show okB s (cmpOp.memb x (.ref r) s) = _
 rw [memb_ref h hq]; rfl
theorem c_notin {r:Lbl} {l:List V} {x:V} {q:Bool} (h:s.heap r = some (.list l)) (hq:vin s x l = some q):cmpOp .notin x (.ref r) s = .ok (.bool (!q)) s:=by
 show okB s ((cmpOp.memb x (.ref r) s).map (!·)) = _
 rw [memb_ref h hq]; rfl
theorem get_dict {r:Lbl} {d:List (V × V)} (k:List Nat) (w:V) (h:s.heap r = some (.dict d)):bmeth .get (.ref r) [.str k,w] s = .ok ((dfind (.str k) d).getD w) s:=by
 show (match dictAt (.ref r) s with | some p=>if (V.str k).isKey = true then Res.ok ((dfind (.str k) p.2).getD w) s else .stuck | none=>.stuck) = _
 rw [dict_at h]; rfl
noncomputable def Nil (_:Lbl):Prop:=False
theorem fr_put {F:Lbl → Prop} {s':MS} (a:Fr F s s') {l:Lbl} (h:s.cnt l.1 ≤ l.2) (o:MObj):Fr F s (s'.put l o) :=
 ⟨fun k hk n=>(put_ne fun e=>by subst e; lia).trans (a.1 k hk n),a.2⟩
theorem stays_ref {s₀:MS} {r:Lbl} {l:List V} (h0:s₀.heap r = some (.list l)) (h:s.heap r = some (.list l)):stays s₀ s false (.ref r) = true:=by
 show (decide (s₀.heap r = s.heap r) && ((dictAt (.ref r) s₀).isNone || decide (s₀.wr = s.wr))) = true
 rw [h0,h,decide_eq_true rfl]; delta dictAt; dsimp only; rw [h0]; rfl
theorem sl_to {r:Lbl} {l:List V} (k:Nat) (h:s.heap r = some (.list l)):getSlice (.ref r) none (some (.int k)) s = .ok (.lst (l.take k)) s:=by
 have e:getSlice (.ref r) none (some (.int k)) s = (match seqOf s (.ref r) with | some (true,l)=>(match cutAt 0 none,cutAt l.length (some (.int k)) with | some i,some j=>Res.ok (V.lst ((l.take j).drop i)) s | _,_=>.stuck) | some (false,l)=>(match cutAt 0 none,cutAt l.length (some (.int k)) with | some i,some j=>if ((l.take j).drop i).length < l.length then Res.ok (V.tup ((l.take j).drop i)) s else .stuck | _,_=>.stuck) | none=>.stuck):=rfl
 rw [e,seq_ref h]
 show (match some 0,(if (0:Int) ≤ k then some (k:Int).toNat else none) with | some i,some j=>Res.ok (V.lst ((l.take j).drop i)) s | _,_=>.stuck) = _
 rw [if_pos (Int.natCast_nonneg k)]; rfl
theorem veq_seq {a b:V} {l:List V} (n:Nat) (ha:seqOf s a = some (true,l)) (hb:seqOf s b = some (true,l)) (h:∀ x ∈ l,veq s n x x = some true):veq s (n + 1) a b = some true:=by
 show (match seqOf s a,seqOf s b with | some p,some q=>if p.1 = q.1 then (if p.1 = true ∧ p.2.length ≠ q.2.length then some false else zipAll (veq s n) p.2 q.2) else some false | some _,none=>eqNotSeq b | none,some _=>eqNotSeq a | none,none=>eqFlat a b) = _
 rw [ha,hb]
 show (if true = true then (if true = true ∧ l.length ≠ l.length then some false else zipAll (veq s n) l l) else some false) = _
 rw [if_pos rfl,if_neg fun q=>q.2 rfl]
 exact zip_refl _ _ h
end
section
variable {ks:List Key} {nc m:Nat} {W:WS} {x:Bool → HIx} {u:MS} {G:List Call}
theorem slice4 (r:LRow) (s:MS):getSlice (lrowV r) none (some (.int 4)) s = .ok (callV (some r.call)) s:=rfl
theorem slice2 (r:LRow) (s:MS):getSlice (lrowV r) none (some (.int 2)) s = .ok (pairV r) s:=rfl
noncomputable abbrev loc1 (jf ja js:Nat) (a b c:Option V):Loc:=[some (.ref (1,0)),some (.ref (33,0)),some (.ref (12,jf)),some (.ref (31,ja)),some (.ref (40,js)),a,b,c]
noncomputable def RI (u:MS) (W:WS) (jf ja js:Nat) (rem:List V) (L:Loc) (t:MS):Prop:=∃ Q Rm D a5 a6 a7,W.rows = Q ++ Rm ∧ rem = Rm.map lrowV ∧ Fr Nil u t ∧ t.heap (12,jf) = some (.list (W.rows.map lrowV)) ∧ t.heap (31,ja) = some (.dict D) ∧ D.length ≤ Q.length ∧ (∀ key,(dfind (.str key) D).getD (.int 0) = .int (am key Q)) ∧ t.heap (40,js) = some (.list (Q.map pairV)) ∧ L = loc1 jf ja js a5 a6 a7
theorem run_right (n:Nat) (A:WAt u ks W x) (J:WJ ks nc m W G) (hm:m < 1000) {bl:List (Option Call)} (hb:u.heap (33,0) = some (.list (bl.map callV))) (i33:0 < u.cnt 33) (hG:∀ g ∈ G,some g ∈ bl) :
  OkR (run prog (n + 6) 122 [.ref (1,0),.ref (33,0)] u) fun v t=>v = .bool true ∧ Fr Nil u t:=by
 have hlen:W.rows.length ≤ m:=by have:=J.wi.rl; lia
 refine okr_run (fn:=f_law_ledger_right) rfl rfl ?_
 refine st_assign (e_meth (x:=.ref (1,0)) (vs:=[]) rfl (meth_of A.o) rfl (run_wledger wp rfl (n + 4) A)) rfl ?_
 obtain ⟨jf,hjf⟩:∃ j,j = u.cnt 12:=⟨_,rfl⟩
 have f1:Fr Nil u (u.new 12 (.list (W.rows.map lrowV))):=(Fr.refl _ _).new _ _
 have g1:(u.new 12 (.list (W.rows.map lrowV))).heap (12,jf) = some (.list (W.rows.map lrowV)):=by rw [hjf]; exact new_self _ _ _
 rw [← hjf]
 generalize u.new 12 (.list (W.rows.map lrowV)) = u1 at f1 g1
 refine st_if (t:=false) (s':=u1) (e_not (t:=true) (e_isinst (x:=.ref (12,jf)) rfl (kind1 (g:=.list) (by delta tagOf; dsimp only; rw [g1]) rfl))) (st_next ?_)
 refine st_assign (v:=.ref (31,u1.cnt 31)) (s':=u1.new 31 (.dict [])) rfl rfl ?_
 obtain ⟨ja,hja⟩:∃ j,j = u1.cnt 31:=⟨_,rfl⟩
 have la:u.cnt 31 ≤ ja:=by rw [hja]; exact f1.2 31
 have f2:Fr Nil u (u1.new 31 (.dict [])):=f1.new _ _
 have g2:(u1.new 31 (.dict [])).heap (31,ja) = some (.dict []):=by rw [hja]; exact new_self _ _ _
 have g1':(u1.new 31 (.dict [])).heap (12,jf) = some (.list (W.rows.map lrowV)):=(new_ne (kind_ne (by decide))).trans g1
 rw [← hja]
 generalize u1.new 31 (.dict []) = u2 at f2 g2 g1'
 refine st_assign (v:=.ref (40,u2.cnt 40)) (s':=u2.new 40 (.list [])) rfl rfl ?_
 obtain ⟨js,hjs⟩:∃ j,j = u2.cnt 40:=⟨_,rfl⟩
 have ls:u.cnt 40 ≤ js:=by rw [hjs]; exact f2.2 40
 have f3:Fr Nil u (u2.new 40 (.list [])):=f2.new _ _
 have g40:(u2.new 40 (.list [])).heap (40,js) = some (.list []):=by rw [hjs]; exact new_self _ _ _
 have g31:(u2.new 40 (.list [])).heap (31,ja) = some (.dict []):=(new_ne (kind_ne (by decide))).trans g2
 have g12:(u2.new 40 (.list [])).heap (12,jf) = some (.list (W.rows.map lrowV)):=(new_ne (kind_ne (by decide))).trans g1'
 rw [← hjs]
 generalize u2.new 40 (.list []) = u3 at f3 g40 g31 g12
 show OkR (exs prog _ _ _ (loc1 jf ja js none none none) u3) _
 refine st_for (v:=.ref (12,jf)) (s':=u3) (xs:=W.rows.map lrowV) rfl (items_list g12) rfl (okr_for (RI u W jf ja js) ?_ ?_ _ _ _ ⟨[],W.rows,[],_,_,_,rfl,rfl,f3,g12,g31,Nat.le_refl _,fun _=>rfl,g40,rfl⟩)
 ·rintro v rem L t ⟨Q,Rm,D,a5,a6,a7,e,hrem,f,h12,h31,hD,hd,h40,rfl⟩
  refine ⟨stays_ref g12 h12,?_⟩
  cases Rm with
  | nil=>cases hrem
  | cons r Rm =>
  obtain ⟨rfl,rfl⟩:v = lrowV r ∧ rem = Rm.map lrowV:=by cases hrem; exact ⟨rfl,rfl⟩
  have hQ:Q.length + 1 ≤ W.rows.length:=by rw [e,List.length_append,List.length_cons]; lia
  have hbl:t.heap (33,0) = some (.list (bl.map callV)):=(f.1 (33,0) i33 id).trans hb
  obtain ⟨hc,htold,hno⟩:=row_ok J e
  obtain ⟨q,hq,hq2⟩:=vin_call (s:=t) r.call bl
  cases hq2 (hG _ hc)
  show OkR (exs prog (run prog (n + 5)) (n + 5) _ (loc1 jf ja js (some (lrowV r)) a6 a7) t) _
  refine st_if (t:=false) (s':=t) (e_orF rfl (e_orF rfl (e_orF (e_cmp (x:=callV (some r.call)) (y:=.ref (33,0)) (e_slice (x:=lrowV r) (y:=none) (z:=some (.int 4)) rfl rfl rfl (slice4 r t)) rfl (c_notin hbl hq)) (e_or1 (e_cmp (x:=pairV r) (y:=.ref (40,js)) (e_slice (x:=lrowV r) (y:=none) (z:=some (.int 2)) rfl rfl rfl (slice2 r t)) rfl (c_in h40 (vin_pair r Q hno))))))) (st_next ?_)
  refine st_expr (v:=.none) (s':=t.put (40,js) (.list (Q.map pairV ++ [pairV r]))) (e_bm (x:=.ref (40,js)) (vs:=[pairV r]) (s2:=t) rfl (bm_list h40) (e_cons (e_slice (x:=lrowV r) (y:=none) (z:=some (.int 2)) rfl rfl rfl (slice2 r t)) rfl) (append_at _ _ _ _ h40 (by rw [List.length_map]; lia))) ?_
  have k40:(t.put (40,js) (.list (Q.map pairV ++ [pairV r]))).heap (40,js) = some (.list (Q.map pairV ++ [pairV r])):=put_self _ _ _
  have k12:=(put_ne (s:=t) (c:=(40,js)) (o:=.list (Q.map pairV ++ [pairV r])) (kind_ne (i:=jf) (j:=js) (show 12 ≠ 40 by decide))).trans h12
  have k31:=(put_ne (s:=t) (c:=(40,js)) (o:=.list (Q.map pairV ++ [pairV r])) (kind_ne (i:=ja) (j:=js) (show 31 ≠ 40 by decide))).trans h31
  have kf:=fr_put f (l:=(40,js)) ls (.list (Q.map pairV ++ [pairV r]))
  generalize t.put (40,js) (.list (Q.map pairV ++ [pairV r])) = t1 at k40 k12 k31 kf
  refine st_unpack (v:=.tup [.int (dn (am r.k Q) r.w).1,.int (dn (am r.k Q) r.w).2]) (l':=loc1 jf ja js (some (lrowV r)) (some (.int (dn (am r.k Q) r.w).1)) (some (.int (dn (am r.k Q) r.w).2))) (s1:=t1) (e_call (vs:=[.int (am r.k Q),wv r.w]) (s1:=t1) (e_cons (e_bm (x:=.ref (31,ja)) (vs:=[.str r.k,.int 0]) (s2:=t1) rfl (bm_dict k31) rfl ((get_dict r.k (.int 0) k31).trans (by rw [hd]))) (e_cons rfl rfl)) (run_ldone p_done (n + 4) _ _ _)) rfl ?_
  refine st_setitem (v:=.int (dn (am r.k Q) r.w).1) (x:=.ref (31,ja)) (y:=.str r.k) (s1:=t1) (s2:=t1) (s3:=t1) rfl rfl rfl (setItem_dict _ _ _ _ _ k31 (by lia)) ?_
  have m31:(t1.put (31,ja) (.dict (dput (.str r.k) (.int (dn (am r.k Q) r.w).1) D))).heap (31,ja) = _:=put_self _ _ _
  have m12:=(put_ne (s:=t1) (c:=(31,ja)) (o:=.dict (dput (.str r.k) (.int (dn (am r.k Q) r.w).1) D)) (kind_ne (i:=jf) (j:=ja) (show 12 ≠ 31 by decide))).trans k12
  have m40:=(put_ne (s:=t1) (c:=(31,ja)) (o:=.dict (dput (.str r.k) (.int (dn (am r.k Q) r.w).1) D)) (kind_ne (i:=js) (j:=ja) (show 40 ≠ 31 by decide))).trans k40
  have mf:=fr_put kf (l:=(31,ja)) la (.dict (dput (.str r.k) (.int (dn (am r.k Q) r.w).1) D))
  generalize t1.put (31,ja) (.dict (dput (.str r.k) (.int (dn (am r.k Q) r.w).1) D)) = t2 at m31 m12 m40 mf
  have eb:binOp .add (callV (some r.call)) (.tup [.int (dn (am r.k Q) r.w).2]) t2 = .ok (lrowV r) t2:=by rw [← htold]; rfl
  generalize hp:dn (am r.k Q) r.w = pr at eb m31 ⊢
  have es4:ev prog (run prog (n + 5)) (.slice (.loc 5) none (some (.int 4))) (loc1 jf ja js (some (lrowV r)) (some (.int pr.1)) (some (.int pr.2))) t2 = .ok (callV (some r.call)) t2:=e_slice (x:=lrowV r) (y:=none) (z:=some (.int 4)) rfl rfl rfl (slice4 r t2)
  have ec:ev prog (run prog (n + 5)) (.call 101 [.loc 5,.bin .add (.slice (.loc 5) none (some (.int 4))) (.tup [.loc 7])]) (loc1 jf ja js (some (lrowV r)) (some (.int pr.1)) (some (.int pr.2))) t2 = .ok (.bool true) t2 :=
   e_call (vs:=[lrowV r,lrowV r]) (s1:=t2) (e_cons rfl (e_cons (e_bin (x:=callV (some r.call)) (y:=.tup [.int pr.2]) (s1:=t2) (s2:=t2) es4 rfl eb) rfl)) (run_alike p_alike 2 (n + 2) (lrowV r) (lrowV r) t2 (alike_lrow 0 r))
  have fin:∀ (c:E) (l:Loc) (Q:Fl × Loc → MS → Prop) (s:MS),(ev prog (run prog (n + 5)) c l s = .ok (.bool false) s ∧ Q (.next,l) s) → OkR (exs prog (run prog (n + 5)) (n + 5) [.ite c [.ret (some (.bool false))] []] l s) Q:=fun c l Q s h=>st_if (t:=false) (s':=s) h.1 (st_next (st_nil h.2))
  have hd':∀ key,(dfind (.str key) (dput (.str r.k) (.int pr.1) D)).getD (.int 0) = .int (am key (Q ++ [r])):=fun key=>by
   rw [dfind_dput,am_snoc,hp]
   by_cases h:key = r.k
   ·rw [if_pos h,if_pos h]; rfl
   ·rw [if_neg h,if_neg h]; exact hd key
  have inv:RI u W jf ja js (Rm.map lrowV) (loc1 jf ja js (some (lrowV r)) (some (.int pr.1)) (some (.int pr.2))) t2:=⟨Q ++ [r],Rm,_,_,_,_,by rw [e,List.append_assoc]; rfl,rfl,mf,m12,m31,by rw [List.length_append]; exact Nat.le_trans (dput_len _ _ _) (Nat.succ_le_succ hD),hd',by rw [m40,List.map_append]; rfl,rfl⟩
  refine fin _ _ _ _ ?_
  exact ⟨e_not (t:=true) ec,inv⟩
 ·rintro L t ⟨Q,Rm,D,a5,a6,a7,e,hrem,f,h12,h31,hD,hd,h40,rfl⟩
  refine ⟨stays_ref g12 h12,?_⟩
  rw [seqQ_next]
  have hQ:W.rows = Q:=by
   cases Rm with
   | nil=>rw [e,List.append_nil]
   | cons r Rm=>cases hrem
  refine st_expr (v:=.none) (s':=t.put (12,jf) (.list (W.rows.map lrowV ++ [.str [109,111,114,101]]))) (e_bm (x:=.ref (12,jf)) (vs:=[.str [109,111,114,101]]) (s2:=t) rfl (bm_list h12) rfl (append_at _ _ _ _ h12 (by rw [List.length_map]; lia))) ?_
  have k40:=(put_ne (s:=t) (c:=(12,jf)) (o:=.list (W.rows.map lrowV ++ [.str [109,111,114,101]])) (kind_ne (i:=js) (j:=jf) (show 40 ≠ 12 by decide))).trans h40
  have kf:=fr_put f (l:=(12,jf)) (show u.cnt 12 ≤ jf by rw [hjf]; exact Nat.le_refl _) (.list (W.rows.map lrowV ++ [.str [109,111,114,101]]))
  generalize t.put (12,jf) (.list (W.rows.map lrowV ++ [.str [109,111,114,101]])) = t1 at k40 kf
  have A1:=A.step (kf.mono fun l q=>q.elim)
  have k40':(t1.new 12 (.list (W.rows.map lrowV))).heap (40,js) = some (.list (Q.map pairV)):=(new_ne (kind_ne (by decide))).trans k40
  have k12:(t1.new 12 (.list (W.rows.map lrowV))).heap (12,t1.cnt 12) = some (.list (W.rows.map lrowV)):=new_self _ _ _
  have eA:ev prog (run prog (n + 5)) (.prim .len [.meth (.loc 0) 25 []]) (loc1 jf ja js a5 a6 a7) t1 = .ok (.int (W.rows.length:Nat)) (t1.new 12 (.list (W.rows.map lrowV))):=e_prim (e_cons (e_meth (x:=.ref (1,0)) (vs:=[]) rfl (meth_of A1.o) rfl (run_wledger wp rfl (n + 4) A1)) rfl) ((len_seq (seq_ref k12)).trans (by rw [List.length_map]))
  have fB:=kf.new 12 (.list (W.rows.map lrowV))
  generalize t1.new 12 (.list (W.rows.map lrowV)) = t2 at eA fB k40'
  have eB:ev prog (run prog (n + 5)) (.prim .len [.loc 4]) (loc1 jf ja js a5 a6 a7) t2 = .ok (.int (W.rows.length:Nat)) t2:=e_prim (vs:=[.ref (40,js)]) rfl ((len_seq (seq_ref k40')).trans (by rw [List.length_map,hQ]))
  refine st_ret (v:=.bool true) (s':=t2) ?qa ?qb
  case qa=>exact e_cmp eA eB (congrArg (fun q=>Res.ok (V.bool q) t2) (decide_eq_true rfl))
  case qb=>exact ⟨rfl,fB⟩
noncomputable def LB (ks:List Key) (nc:Nat) (F:MS → Prop) (R0:List LRow) (m k:Nat) (t:MS):Prop :=
 ∃ W x G bl,WAt t ks W x ∧ WJ ks nc m W G ∧ (∀ g ∈ G,some g ∈ bl) ∧ t.heap (33,0) = some (.list (List.map callV bl)) ∧ 0 < t.cnt 33 ∧ bl.length ≤ k ∧ (∃ more,W.rows = R0 ++ more) ∧ F t
set_option genCtorIdx false in
structure Stay (F:MS → Prop):Prop where
 fr:∀ s t,F s → Fr NWp s t → F t
 put:∀ s o,F s → F (s.put (33,0) o)
noncomputable abbrev loc2 (l:List Int) (ks:List Key) (nc:Nat) (a b:Option V):Loc:=[some (.lst (l.map .int)),some (.lst (ks.map .str)),some (.int nc),some (.ref (1,0)),some (.ref (33,0)),a,b]
theorem turn {F:MS → Prop} (hF:Stay F) {R0:List LRow} {k:Nat} (n:Nat) (K:KeysFine ks) (h1:1 ≤ nc) (h6:nc ≤ 6) (hm:m < 1000) (hk:k < 1000) {l:List Int} (cell:Int) {a:Option V} (b:LB ks nc F R0 m k u) :
  OkR (ev prog (run prog (n + 6)) (.bm .append (.loc 4) [.call 121 [.loc 3,.loc 1,.loc 2,.loc 5]]) (loc2 l ks nc (some (.int cell)) a) u) fun v t=>LB ks nc F R0 (m + 2) (k + 1) t:=by
 obtain ⟨W,x,G,bl,A,J,hG,hb,i33,hl,⟨more,er⟩,hf⟩:=b
 refine e_bmQ1 (x:=.ref (33,0)) (s1:=u) rfl (bm_list hb) (e_callQ (vs:=[.ref (1,0),.lst (ks.map .str),.int nc,.int cell]) (s1:=u) rfl (run_deed wp hHP dp rfl n A J.wi K h1 h6 (by lia) cell)) ?_
 rintro v s' ⟨o,rfl,W1,W2,x',s1,s2,A2,f⟩
 have hb':s'.heap (33,0) = some (.list (bl.map callV)):=(f.1 (33,0) i33 (of_decide_eq_true (p:=¬ 33 < 11) rfl)).trans hb
 obtain ⟨J1,m1,e1⟩:=J.step K.nd K.six h6 s1
 obtain ⟨J2,m2,e2⟩:=J1.step K.nd K.six h6 s2
 refine okr_of (append_at s' (33,0) (bl.map callV) (callV o) hb' (by rw [List.length_map]; lia)) ?_
 refine ⟨W2,x',G ++ o.toList ++ (none:Option Call).toList,bl ++ [o],A2.step ((Fr.refl _ _).put (l:=(33,0)) (of_decide_eq_true (p:=11 ≤ 33) rfl) _),J2,fun g hg=>?_,by rw [put_self,List.map_append]; rfl,Nat.lt_of_lt_of_le i33 (f.2 33),by rw [List.length_append]; exact Nat.succ_le_succ hl,⟨more ++ (m1 ++ m2),by rw [e2,e1,er,List.append_assoc,List.append_assoc]⟩,hF.put _ _ (hF.fr _ _ hf f)⟩
 rcases List.mem_append.1 hg with hg | hg
 ·rcases List.mem_append.1 hg with hg | hg
  ·exact List.mem_append_left _ (hG g hg)
  ·cases o with
   | none=>cases hg
   | some g'=>cases List.mem_singleton.1 hg; exact List.mem_append_right _ (List.mem_singleton.2 rfl)
 ·cases hg
theorem sl_two (l:List V) (i j:Nat) (s:MS):getSlice (.lst l) (some (.int i)) (some (.int j)) s = .ok (.lst ((l.take j).drop i)) s:=by
 show (match (if (0:Int) ≤ i then some (i:Int).toNat else none),(if (0:Int) ≤ j then some (j:Int).toNat else none) with | some i,some j=>Res.ok (V.lst ((l.take j).drop i)) s | _,_=>.stuck) = _
 rw [if_pos (Int.natCast_nonneg i),if_pos (Int.natCast_nonneg j)]; rfl
theorem cells {F:MS → Prop} (hF:Stay F) {R0:List LRow} {k:Nat} (n:Nat) (K:KeysFine ks) (h1:1 ≤ nc) (h6:nc ≤ 6) {l:List Int} (i:Nat) (hm:m ≤ 100) (hk:k ≤ 100) {a b:Option V} {r:List S} {Q:Fl × Loc → MS → Prop} (h:LB ks nc F R0 m k u)
  (kk:∀ a' t m' k',m' ≤ m + 60 → k' ≤ k + 30 → LB ks nc F R0 m' k' t → OkR (exs prog (run prog (n + 6)) (n + 6) r (loc2 l ks nc a' b) t) Q) (hi:decide ((i:Int) + 30 = (i + 30:Nat)) = true) :
  OkR (exs prog (run prog (n + 6)) (n + 6) (.for_ (.inl (.loc 5)) false (.slice (.loc 0) (some (.int i)) (some (.int (i + 30:Nat)))) [.expr (.bm .append (.loc 4) [.call 121 [.loc 3,.loc 1,.loc 2,.loc 5]])] :: r) (loc2 l ks nc a b) u) Q:=by
 refine st_for (e_slice (x:=.lst (l.map .int)) rfl rfl rfl (sl_two (l.map V.int) i (i + 30) u)) rfl rfl (okr_for (fun rem L t=>∃ (m' k':Nat) (a:Option V),LB ks nc F R0 m' k' t ∧ m' + 2 * rem.length ≤ m + 60 ∧ k' + rem.length ≤ k + 30 ∧ (∀ v ∈ rem,∃ i:Int,v = .int i) ∧ L = loc2 l ks nc a b) ?_ ?_ _ _ _ ?_)
 ·rintro v rem L t ⟨m',k',a,h,hm',hk',hv,rfl⟩
  refine ⟨rfl,?_⟩
  obtain ⟨cell,rfl⟩:=hv v (List.mem_cons_self ..)
  rw [List.length_cons] at hm' hk'
  show OkR (exs prog _ _ _ (loc2 l ks nc (some (.int cell)) b) t) _
  refine st_exprQ (turn hF n K h1 h6 (by lia) (by lia) cell h) ?_
  intro v u1 h'
  exact st_nil ⟨m' + 2,k' + 1,_,h',by lia,by lia,fun v hv'=>hv v (List.mem_cons_of_mem _ hv'),rfl⟩
 ·rintro L t ⟨m',k',a,h,hm',hk',-,rfl⟩
  refine ⟨rfl,?_⟩
  rw [seqQ_next]
  exact kk a t m' k' (by simpa using hm') (by simpa using hk') h
 ·refine ⟨m,k,a,h,by rw [List.length_drop,List.length_take,List.length_map]; lia,by rw [List.length_drop,List.length_take,List.length_map]; lia,fun v hv=>?_,rfl⟩
  obtain ⟨i,-,rfl⟩:=memb_map (List.mem_of_mem_take (List.mem_of_mem_drop hv))
  exact ⟨i,rfl⟩
end
theorem law_ok (n:Nat) (l:List Int) (hl:l.length ≤ 63):OkR (run prog (n + 7) 118 [.lst (l.map .int)] st0) fun v _=>v = .bool true:=by
 refine okr_run (fn:=f_law) rfl rfl ?_
 refine st_assign (e_call (e_cons (e_call (vs:=[.lst (l.map .int),.int 0]) rfl (run_cell0 p_cell (n + 5) l st0)) rfl) (run_keys1 p_keys (n + 5) _ st0)) rfl ?_
 have K:=keys_fine (l.getD 0 0)
 generalize keysOf (l.getD 0 0) = ks at K
 obtain ⟨k0,hk0,ek⟩:=fmod_nat (l.getD 1 0) (N:=6) (by decide)
 have e1:ev prog (run prog (n + 6)) (.bin .add (.int 1) (.bin .mod (.call 100 [.loc 0,.int 1]) (.int 6))) [some (.lst (l.map .int)),some (.lst (ks.map .str)),none,none,none,none,none] st0 = .ok (.int (1 + k0:Nat)) st0 :=
  e_bin (x:=.int 1) (y:=.int (l.getD 1 0 |>.fmod 6)) rfl (e_bin (x:=.int (l.getD 1 0)) (e_call (vs:=[.lst (l.map .int),.int 1]) rfl (run_cell1 p_cell (n + 5) l st0)) rfl rfl) (congrArg (fun q=>Res.ok (V.int q) st0) (by rw [show (6:Int) = ((6:Nat):Int) from rfl,ek]; lia))
 have h1:1 ≤ 1 + k0:=by lia
 have h6:1 + k0 ≤ 6:=by lia
 generalize 1 + k0 = nc at e1 h1 h6
 refine st_assign e1 rfl ?_
 refine st_assignQ (e_newQ (vs:=[.lst (ks.map .str),.int nc]) (s1:=st0) rfl (make_world wp hHP rfl rfl rfl rfl rfl rfl rfl (n + 3) K h1 h6 fun k hk=>rfl)) rfl ?_
 rintro v s2 ⟨rfl,⟨x,a2⟩,-,ck⟩
 have c33:s2.cnt 33 = 0:=ck 33 (by decide)
 refine st_assign (v:=.ref (33,s2.cnt 33)) (s':=s2.new 33 (.list [])) rfl rfl ?_
 have b0:LB ks nc (fun _=>True) [] 0 0 (s2.new 33 (.list [])):=⟨_,x,[],[],a2.step ((Fr.refl _ _).new _ _),WJ.new K.nd nc,fun g hg=>(nomatch hg),by rw [← c33]; exact new_self _ _ _,by rw [cnt_self]; lia,Nat.le_refl _,⟨_,rfl⟩,trivial⟩
 rw [c33]
 generalize s2.new 33 (.list []) = s3 at b0
 show OkR (exs prog _ _ _ (loc2 l ks nc none none) s3) _
 refine cells ⟨fun _ _ _ _=>trivial,fun _ _ _=>trivial⟩ n K h1 h6 2 (by lia) (by lia) b0 ?_ rfl
 intro a' t m' k' hm' hk' h
 obtain ⟨W,x,G,bl,A,J,hG,hb,i33,hbl,-,-⟩:=h
 obtain ⟨v,u1,er,rfl,f1⟩:=okr_elim (run_right n A J (by lia) hb i33 hG)
 refine st_if (t:=false) (s':=u1) (e_not (t:=true) (e_call (vs:=[.ref (1,0),.ref (33,0)]) (s1:=t) rfl er)) (st_next ?_)
 have A1:=A.step (f1.mono fun l q=>q.elim)
 have hb1:u1.heap (33,0) = some (.list (bl.map callV)):=(f1.1 (33,0) i33 id).trans hb
 have i1:0 < u1.cnt 33:=Nat.lt_of_lt_of_le i33 (f1.2 33)
 obtain ⟨jh,hjh⟩:∃ j,j = u1.cnt 12:=⟨_,rfl⟩
 refine st_assign (e_meth (x:=.ref (1,0)) (vs:=[]) rfl (meth_of A1.o) rfl (run_wledger wp rfl (n + 5) A1)) rfl ?_
 have f2:Fr Nil u1 (u1.new 12 (.list (W.rows.map lrowV))):=(Fr.refl _ _).new _ _
 have g2:(u1.new 12 (.list (W.rows.map lrowV))).heap (12,jh) = some (.list (W.rows.map lrowV)):=by rw [hjh]; exact new_self _ _ _
 have c2:jh < (u1.new 12 (.list (W.rows.map lrowV))).cnt 12:=by rw [cnt_self]; lia
 rw [← hjh]
 generalize u1.new 12 (.list (W.rows.map lrowV)) = u2 at f2 g2 c2
 have stay:Stay fun s=>s.heap (12,jh) = some (.list (W.rows.map lrowV)) ∧ jh < s.cnt 12:=⟨fun s t h f=>⟨(f.1 (12,jh) h.2 (of_decide_eq_true (p:=¬ 12 < 11) rfl)).trans h.1,Nat.lt_of_lt_of_le h.2 (f.2 12)⟩,fun s o h=>⟨(put_ne (kind_ne (by decide))).trans h.1,h.2⟩⟩
 have b2:LB ks nc (fun s=>s.heap (12,jh) = some (.list (W.rows.map lrowV)) ∧ jh < s.cnt 12) W.rows m' k' u2:=⟨W,x,G,bl,A1.step (f2.mono fun l q=>q.elim),J,hG,(f2.1 (33,0) i1 id).trans hb1,Nat.lt_of_lt_of_le i1 (f2.2 33),hbl,⟨[],(List.append_nil _).symm⟩,g2,c2⟩
 generalize W.rows = R0 at b2 stay
 show OkR (exs prog _ _ _ (loc2 l ks nc a' (some (.ref (12,jh)))) u2) _
 refine cells stay n K h1 h6 32 (by lia) (by lia) b2 ?_ rfl
 intro a3 t3 m3 k3 hm3 hk3 h
 obtain ⟨W3,x3,G3,bl3,A3,J3,hG3,hb3,i3,-,⟨more,er3⟩,g3,c3⟩:=h
 obtain ⟨v,u4,e4,rfl,f4⟩:=okr_elim (run_right n A3 J3 (by lia) hb3 i3 hG3)
 have A4:=A3.step (f4.mono fun l q=>q.elim)
 have g4:u4.heap (12,jh) = some (.list (R0.map lrowV)):=(f4.1 (12,jh) c3 id).trans g3
 have c4:jh < u4.cnt 12:=Nat.lt_of_lt_of_le c3 (f4.2 12)
 have g5:(u4.new 12 (.list (W3.rows.map lrowV))).heap (12,u4.cnt 12) = some (.list (W3.rows.map lrowV)):=new_self _ _ _
 have g6:(u4.new 12 (.list (W3.rows.map lrowV))).heap (12,jh) = some (.list (R0.map lrowV)):=(new_ne fun e=>by have:=congrArg Prod.snd e; dsimp only at this; lia).trans g4
 have el:=run_wledger wp rfl (n + 5) A4
 generalize u4.new 12 (.list (W3.rows.map lrowV)) = u5 at g5 g6 el
 have sl:getSlice (.ref (12,u4.cnt 12)) none (some (.int (R0.length:Nat))) u5 = .ok (.lst (R0.map lrowV)) u5:=(sl_to R0.length g5).trans (by rw [er3,List.map_append,List.take_left' (List.length_map _)])
 have ve:veq u5 eqDeep (.lst (R0.map lrowV)) (.ref (12,jh)) = some true:=veq_seq 11 rfl (seq_ref g6) fun v hv=>by
  obtain ⟨r,-,rfl⟩:=memb_map hv
  exact q_lrow 8 r
 have eln:ev prog (run prog (n + 6)) (.prim .len [.loc 6]) (loc2 l ks nc a3 (some (.ref (12,jh)))) u5 = .ok (.int (R0.length:Nat)) u5:=e_prim (vs:=[.ref (12,jh)]) (s1:=u5) rfl ((len_seq (seq_ref g6)).trans (by rw [List.length_map]))
 have e5:ev prog (run prog (n + 6)) (.cmp (.slice (.meth (.loc 3) 25 []) none (some (.prim .len [.loc 6]))) .eq (.loc 6)) (loc2 l ks nc a3 (some (.ref (12,jh)))) u4 = .ok (.bool true) u5 :=
  e_cmp (x:=.lst (R0.map lrowV)) (y:=.ref (12,jh)) (s1:=u5) (s2:=u5) (e_slice (x:=.ref (12,u4.cnt 12)) (y:=none) (z:=some (.int (R0.length:Nat))) (s1:=u5) (s2:=u5) (s3:=u5) (e_meth (x:=.ref (1,0)) (vs:=[]) rfl (meth_of A4.o) rfl el) rfl (by rw [evO_some,eln]; rfl) sl) rfl (by show okB u5 (veq u5 eqDeep _ _) = _; rw [ve]; rfl)
 exact st_ret (v:=.bool true) (s':=u5) (e_andT (s1:=u4) (e_call (vs:=[.ref (1,0),.ref (33,0)]) (s1:=t3) rfl e4) (e_and1 e5)) rfl
end Mine.L13
end
section
open PySem PySem.W PyProof.Rows
set_option maxRecDepth 100000
set_option maxHeartbeats 8000000
namespace Mine.L13
noncomputable abbrev p:Program:=PySem.Challenge.rw_uf030007_13.row.prog
noncomputable def bd:List Stmt:=PySem.Challenge.pw_uf030007_13.main.body
noncomputable def fnIn (l:List Stmt) (i:Nat):Arguments × List Stmt × Scope:=match l[i]? with
 | some (.FunctionDef _ a b _ _ _ s _ _ _)=>(a,b,s)
 | _=>default
noncomputable def clsIn_ (l:List Stmt) (i:Nat):List Stmt:=match l[i]? with
 | some (.ClassDef _ _ _ b _ _ _ _ _ _ _)=>b
 | _=>[]
noncomputable def view:Program:={ PySem.Challenge.pw_uf030007_13 with main:={ PySem.Challenge.pw_uf030007_13.main with body:=([0,2,4,5,6,7,8,9,10,11,12,13,15,16,17,18,20,22,23,24,25,26,27,29,30,31,32,33,34,35,36]:List Nat).filterMap fun i=>bd[i]? } }
noncomputable def tE:Obj:={ cls:=.type "tuple",data:=.seq #[] }
noncomputable def nE:Obj:={ cls:=.none,data:=.fields #[] }
noncomputable def gO (n q:String) (f:Arguments × List Stmt × Scope):Obj:={ cls:=.none,data:=.func { name:=Str.ofString n,qualname:=Str.ofString q,params:=f.1,body:=.stmts f.2.1,scope:=f.2.2,globals:=0,closure:=[],defaults:=.none,kwdefaults:=.none } }
noncomputable def fO (n q:String) (f:Arguments × List Stmt × Scope) (m:String) (t c:Nat):Obj:={ cls:=.type "function",data:=.func { name:=Str.ofString n,qualname:=Str.ofString q,params:=f.1,body:=.stmts f.2.1,scope:=f.2.2,globals:=3,closure:=[],defaults:=.none,kwdefaults:=.none,pyModule:=.str (Str.ofString m) t,code:=.ref c } }
noncomputable def cfO (n q:String) (t k:Nat) (l na:Int) (a b c d e:Value):Obj:={ cls:=.type "code",data:=.fields #[.str (Str.ofString n) t,.str (Str.ofString q) (t + 1),.str (Str.ofString "/claim/cut.py") (t + 2),.int l 0,.int na 0,.int 0 0,.int 0 0,.int 3 0,a,.bool true,.int 181 0,b,.none,c,d,e,.int k 0,.int l 0,.str (Str.ofString "/claim/cut.py") (k + 1)] }
noncomputable def cO (n q:String) (t a k:Nat) (l na:Int):Obj:=cfO n q t k l na (.ref a) (.ref (a + 1)) (.ref (a + 2)) (.ref (a + 3)) (.ref (a + 4))
noncomputable def kO (n q:String) (t a k:Nat) (l na:Int):Obj:=cfO n q t k l na (.ref a) (.ref (a + 1)) .none .none (.ref (a + 2))
noncomputable def tSs:Nat → List String → List Value
 | _,[]=>[]
 | t,x :: l=>.str (Str.ofString x) t :: tSs (t + 1) l
noncomputable def tS (t:Nat) (l:List String):Obj:={ cls:=.type "tuple",data:=.seq ⟨tSs t l⟩ }
noncomputable def eV (P:Params) (k:String) (t:Nat) (v:Value):DictEntry:={ hash:=PyData.keyHash P (Str.ofString k),key:=.str (Str.ofString k) t,val:=v }
noncomputable def eR (P:Params) (k:String) (t a:Nat):DictEntry:=eV P k t (.ref a)
noncomputable def eS (P:Params) (k:String) (t:Nat) (x:String) (u:Nat):DictEntry:=eV P k t (.str (Str.ofString x) u)
noncomputable def dE (n:Nat) (l:List DictEntry):Obj:={ cls:=.type "dict",data:=.dict ⟨l⟩ n }
noncomputable def pOs:List (Int × Int × Nat) → List Value
 | []=>[]
 | (x,y,z) :: l=>.int x 0 :: .int y 0 :: .ref z :: pOs l
noncomputable def pO (l:List (Int × Int × Nat)):Obj:={ cls:=.none,data:=.fields ⟨pOs l⟩ }
noncomputable def hp (P:Params):List Obj:=(boot_heap P).objs.toList
noncomputable def o13 (P:Params):Obj:={ cls:=Value.type "code",data:=Data.fields #[Value.str (Str.ofString "<module>") 182,Value.str (Str.ofString "<module>") 183,Value.str (Str.ofString "/claim/cut.py") 184,Value.int 1 0,Value.int 0 0,Value.int 0 0,Value.int 0 0,Value.int 0 0,Value.ref 11,Value.bool false,Value.int 181 0,Value.ref 12,Value.none,Value.none,Value.none,Value.none,Value.int 185 0,Value.int 1 0,Value.str (Str.ofString "/claim/cut.py") 186] }
noncomputable def hpa (P:Params):List Obj:=(hp P) ++ [tE,nE,o13 P,{ cls:=Value.type "frame",slots:=#[some (Value.ref 13),some (Value.ref 3),some (Value.ref 3),none,some (Value.str (Str.ofString "__main__") 164),none,some (Value.ref 0)] }]
noncomputable def Sa (w:World) (os:OsState):Shared:=⟨⟨⟨hpa w.params⟩,{ }⟩,#[],{ },187,os⟩
noncomputable def hpb (P:Params):List Obj:=(hpa P)
noncomputable def Sb (w:World) (os:OsState):Shared:=⟨⟨⟨hpb w.params⟩,{ }⟩,#[],{ },187,os⟩
noncomputable def env:Env:={ scope:=p.main.scope,locals:=mainNs,globals:=mainNs,cells:=[],code:=Value.ref 13,frame:=some 14 }
noncomputable def q:Pos:={ line:=0,col:=0,endLine:=0,endCol:=0 }
noncomputable def l0:List Stmt:=((behindTheImports p).drop 0).take 4
noncomputable def l1:List Stmt:=((behindTheImports p).drop 4).take 2
noncomputable def l2:List Stmt:=((behindTheImports p).drop 6).take 2
noncomputable def l3:List Stmt:=((behindTheImports p).drop 8).take 2
noncomputable def l4:List Stmt:=((behindTheImports p).drop 10).take 2
noncomputable def l5:List Stmt:=((behindTheImports p).drop 12).take 4
noncomputable def l6:List Stmt:=((behindTheImports p).drop 16).take 4
noncomputable def l7:List Stmt:=((behindTheImports p).drop 20).take 1
noncomputable def l8:List Stmt:=((behindTheImports p).drop 21).take 6
noncomputable def l9:List Stmt:=((behindTheImports p).drop 27).take 1
noncomputable def l10:List Stmt:=((behindTheImports p).drop 28).take 9
noncomputable def r11:List Stmt:=[]
noncomputable def r10:List Stmt:=l10 ++ r11
noncomputable def r9:List Stmt:=l9 ++ r10
noncomputable def r8:List Stmt:=l8 ++ r9
noncomputable def r7:List Stmt:=l7 ++ r8
noncomputable def r6:List Stmt:=l6 ++ r7
noncomputable def r5:List Stmt:=l5 ++ r6
noncomputable def r4:List Stmt:=l4 ++ r5
noncomputable def r3:List Stmt:=l3 ++ r4
noncomputable def r2:List Stmt:=l2 ++ r3
noncomputable def r1:List Stmt:=l1 ++ r2
noncomputable def r0:List Stmt:=l0 ++ r1
noncomputable def cd:Code:=.body r0 env
noncomputable def d3v0 (P:Params):List DictEntry:=[eS P "__name__" (nat_lit 165) "movehouse.errors" (nat_lit 269),eV P "__doc__" (nat_lit 166) (Value.none),eV P "__package__" (nat_lit 167) (Value.none),eV P "__loader__" (nat_lit 168) (Value.builtin "__main__.__loader__#opaque"),eV P "__spec__" (nat_lit 169) (Value.none),eR P "__annotations__" (nat_lit 170) (nat_lit 6),eR P "__builtins__" (nat_lit 171) (nat_lit 4),eS P "__file__" (nat_lit 173) "/claim/cut.py" (nat_lit 172),eV P "__cached__" (nat_lit 174) (Value.none),eR P "_wall" (nat_lit 193) (nat_lit 21),eR P "Caller" (nat_lit 268) (nat_lit 73)]
noncomputable def o20 (P:Params):Obj:=cO "_wall" "_wall" (nat_lit 187) (nat_lit 15) (nat_lit 191) 1 1
noncomputable def o21 (P:Params):Obj:=fO "_wall" "_wall" (fnIn bd 0) "__main__" (nat_lit 164) (nat_lit 20)
noncomputable def o24 (P:Params):Obj:=dE (nat_lit 10) [eS P "__module__" (nat_lit 203) "movehouse.callers" (nat_lit 194),eS P "__qualname__" (nat_lit 205) "Caller" (nat_lit 204),eV P "__firstlineno__" (nat_lit 207) (Value.int 5 206),eR P "__init__" (nat_lit 215) (nat_lit 35),eR P "begin" (nat_lit 224) (nat_lit 42),eR P "letter" (nat_lit 233) (nat_lit 49),eR P "came" (nat_lit 242) (nat_lit 56),eR P "asking" (nat_lit 249) (nat_lit 63),eR P "answers" (nat_lit 256) (nat_lit 70),eR P "__static_attributes__" (nat_lit 261) (nat_lit 71)]
noncomputable def o27 (P:Params):Obj:={ cls:=Value.type "code",data:=Data.fields #[Value.str (Str.ofString "Caller") 198,Value.str (Str.ofString "Caller") 199,Value.str (Str.ofString "/claim/cut.py") 200,Value.int 5 0,Value.int 0 0,Value.int 0 0,Value.int 0 0,Value.int 0 0,Value.ref 25,Value.bool false,Value.int 181 0,Value.ref 26,Value.none,Value.none,Value.none,Value.none,Value.int 201 0,Value.int 5 0,Value.str (Str.ofString "/claim/cut.py") 202] }
noncomputable def o34 (P:Params):Obj:=cO "__init__" "Caller.__init__" (nat_lit 208) (nat_lit 29) (nat_lit 213) 7 2
noncomputable def o35 (P:Params):Obj:=fO "__init__" "Caller.__init__" (fnIn (clsIn_ bd 2) 0) "movehouse.callers" (nat_lit 194) (nat_lit 34)
noncomputable def o41 (P:Params):Obj:=cO "begin" "Caller.begin" (nat_lit 216) (nat_lit 36) (nat_lit 222) 13 3
noncomputable def o42 (P:Params):Obj:=fO "begin" "Caller.begin" (fnIn (clsIn_ bd 2) 1) "movehouse.callers" (nat_lit 194) (nat_lit 41)
noncomputable def o48 (P:Params):Obj:=cO "letter" "Caller.letter" (nat_lit 225) (nat_lit 43) (nat_lit 231) 18 2
noncomputable def o49 (P:Params):Obj:=fO "letter" "Caller.letter" (fnIn (clsIn_ bd 2) 2) "movehouse.callers" (nat_lit 194) (nat_lit 48)
noncomputable def o55 (P:Params):Obj:=cO "came" "Caller.came" (nat_lit 234) (nat_lit 50) (nat_lit 240) 22 3
noncomputable def o56 (P:Params):Obj:=fO "came" "Caller.came" (fnIn (clsIn_ bd 2) 3) "movehouse.callers" (nat_lit 194) (nat_lit 55)
noncomputable def o62 (P:Params):Obj:=cO "asking" "Caller.asking" (nat_lit 243) (nat_lit 57) (nat_lit 247) 27 1
noncomputable def o63 (P:Params):Obj:=fO "asking" "Caller.asking" (fnIn (clsIn_ bd 2) 4) "movehouse.callers" (nat_lit 194) (nat_lit 62)
noncomputable def o69 (P:Params):Obj:=cO "answers" "Caller.answers" (nat_lit 250) (nat_lit 64) (nat_lit 254) 30 1
noncomputable def o70 (P:Params):Obj:=fO "answers" "Caller.answers" (fnIn (clsIn_ bd 2) 5) "movehouse.callers" (nat_lit 194) (nat_lit 69)
noncomputable def o72 (P:Params):Obj:=dE (nat_lit 4) [eS P "__module__" (nat_lit 203) "movehouse.callers" (nat_lit 194),eV P "__firstlineno__" (nat_lit 207) (Value.int 5 206),eR P "__init__" (nat_lit 215) (nat_lit 35),eR P "begin" (nat_lit 224) (nat_lit 42),eR P "letter" (nat_lit 233) (nat_lit 49),eR P "came" (nat_lit 242) (nat_lit 56),eR P "asking" (nat_lit 249) (nat_lit 63),eR P "answers" (nat_lit 256) (nat_lit 70),eR P "__static_attributes__" (nat_lit 261) (nat_lit 71),eR P "__dict__" (nat_lit 263) (nat_lit 74),eR P "__weakref__" (nat_lit 265) (nat_lit 75),eV P "__doc__" (nat_lit 266) (Value.none)]
noncomputable def o73 (P:Params):Obj:={ cls:=Value.type "type",data:=Data.cls { name:=Str.ofString "Caller",bases:=[Value.type "object"],mro:=[Value.ref 73,Value.type "object"],ns:=72,qualname:=Str.ofString "Caller" },slots:=#[none,none,some (Value.str (Str.ofString "Caller") 196),some (Value.str (Str.ofString "Caller") 204),some (Value.builtin "object.__new__"),some (Value.bool true)] }
noncomputable def hp0 (P:Params):List Obj:=(((hpb P).set 3 (dE (nat_lit 11) (d3v0 P))).set 12 (pO [(1,0,20),(5,0,27)])) ++ [tE,nE,tS (nat_lit 190) ["k"],tE,gO "_wall" "_wall" (fnIn bd 0),o20 P,o21 P,tE,{ cls:=Value.type "builtin_function_or_method",data:=Data.fields #[Value.builtin "type.__prepare__",Value.type "type"] },o24 P,tE,pO [(7,4,34),(13,4,41),(18,4,48),(22,4,55),(27,4,62),(30,4,69)],o27 P,{ cls:=Value.type "frame",slots:=#[some (Value.ref 27),some (Value.ref 3),some (Value.ref 24),none,some (Value.str (Str.ofString "movehouse.callers") 194),none,some (Value.ref 0)] },tE,nE,tS (nat_lit 211) ["self","number"],tE,gO "__init__" "Caller.__init__" (fnIn (clsIn_ bd 2) 0),o34 P,o35 P,tE,nE,tS (nat_lit 219) ["self","key","wish"],tE,gO "begin" "Caller.begin" (fnIn (clsIn_ bd 2) 1),o41 P,o42 P,tE,nE,tS (nat_lit 228) ["self","house","call"],tE,gO "letter" "Caller.letter" (fnIn (clsIn_ bd 2) 2),o48 P,o49 P,tE,nE,tS (nat_lit 237) ["self","number","told"],tE,gO "came" "Caller.came" (fnIn (clsIn_ bd 2) 3),o55 P,o56 P,tE,nE,tS (nat_lit 246) ["self"],tE,gO "asking" "Caller.asking" (fnIn (clsIn_ bd 2) 4),o62 P,o63 P,tE,nE,tS (nat_lit 253) ["self"],tE,gO "answers" "Caller.answers" (fnIn (clsIn_ bd 2) 5),o69 P,o70 P,tS (nat_lit 257) ["begun","closed","number","open_call"],o72 P,o73 P,{ cls:=Value.type "getset_descriptor",data:=Data.fields #[Value.str (Str.ofString "__dict__") 262,Value.ref 73,Value.builtin "function.__dict__",Value.builtin "function.__dict__#set"] },{ cls:=Value.type "getset_descriptor",data:=Data.fields #[Value.str (Str.ofString "__weakref__") 264,Value.ref 73,Value.builtin "ExceptionGroup.__weakref__",Value.none] },{ cls:=Value.type "super",data:=Data.fields #[Value.ref 73,Value.ref 73,Value.ref 73] },{ cls:=Value.type "builtin_function_or_method",data:=Data.fields #[Value.builtin "object.__init_subclass__",Value.ref 73] }]
noncomputable def S0 (w:World) (os:OsState):Shared:=⟨⟨⟨hp0 w.params⟩,{ }⟩,#[],{ },271,os⟩
noncomputable def d3v1 (P:Params):List DictEntry:=(d3v0 P) ++ [eR P "MoveError" (nat_lit 288) (nat_lit 87),eR P "BadWorld" (nat_lit 304) (nat_lit 100)]
noncomputable def o80 (P:Params):Obj:=dE (nat_lit 4) [eS P "__module__" (nat_lit 278) "movehouse.errors" (nat_lit 269),eS P "__qualname__" (nat_lit 280) "MoveError" (nat_lit 279),eV P "__firstlineno__" (nat_lit 282) (Value.int 33 281),eR P "__static_attributes__" (nat_lit 283) (nat_lit 85)]
noncomputable def o83 (P:Params):Obj:={ cls:=Value.type "code",data:=Data.fields #[Value.str (Str.ofString "MoveError") 273,Value.str (Str.ofString "MoveError") 274,Value.str (Str.ofString "/claim/cut.py") 275,Value.int 33 0,Value.int 0 0,Value.int 0 0,Value.int 0 0,Value.int 0 0,Value.ref 81,Value.bool false,Value.int 181 0,Value.ref 82,Value.none,Value.none,Value.none,Value.none,Value.int 276 0,Value.int 33 0,Value.str (Str.ofString "/claim/cut.py") 277] }
noncomputable def o86 (P:Params):Obj:=dE (nat_lit 3) [eS P "__module__" (nat_lit 278) "movehouse.errors" (nat_lit 269),eV P "__firstlineno__" (nat_lit 282) (Value.int 33 281),eR P "__static_attributes__" (nat_lit 283) (nat_lit 85),eR P "__weakref__" (nat_lit 285) (nat_lit 88),eV P "__doc__" (nat_lit 286) (Value.none)]
noncomputable def o93 (P:Params):Obj:=dE (nat_lit 4) [eS P "__module__" (nat_lit 296) "movehouse.errors" (nat_lit 269),eS P "__qualname__" (nat_lit 298) "BadWorld" (nat_lit 297),eV P "__firstlineno__" (nat_lit 300) (Value.int 35 299),eR P "__static_attributes__" (nat_lit 301) (nat_lit 98)]
noncomputable def o96 (P:Params):Obj:={ cls:=Value.type "code",data:=Data.fields #[Value.str (Str.ofString "BadWorld") 291,Value.str (Str.ofString "BadWorld") 292,Value.str (Str.ofString "/claim/cut.py") 293,Value.int 35 0,Value.int 0 0,Value.int 0 0,Value.int 0 0,Value.int 0 0,Value.ref 94,Value.bool false,Value.int 181 0,Value.ref 95,Value.none,Value.none,Value.none,Value.none,Value.int 294 0,Value.int 35 0,Value.str (Str.ofString "/claim/cut.py") 295] }
noncomputable def o99 (P:Params):Obj:=dE (nat_lit 2) [eS P "__module__" (nat_lit 296) "movehouse.errors" (nat_lit 269),eV P "__firstlineno__" (nat_lit 300) (Value.int 35 299),eR P "__static_attributes__" (nat_lit 301) (nat_lit 98),eV P "__doc__" (nat_lit 302) (Value.none)]
noncomputable def o100 (P:Params):Obj:={ cls:=Value.type "type",data:=Data.cls { name:=Str.ofString "BadWorld",bases:=[Value.ref 87],mro:=[Value.ref 100,Value.ref 87,Value.type "ValueError",Value.type "Exception",Value.type "BaseException",Value.type "object"],ns:=99,qualname:=Str.ofString "BadWorld" },slots:=#[some (Value.ref 91),none,some (Value.str (Str.ofString "BadWorld") 289),some (Value.str (Str.ofString "BadWorld") 297),some (Value.builtin "ValueError.__new__"),some (Value.bool true)] }
noncomputable def hp1 (P:Params):List Obj:=(((hp0 P).set 3 (dE (nat_lit 13) (d3v1 P))).set 12 (pO [(1,0,20),(5,0,27),(33,0,83),(35,0,96)])) ++ [{ cls:=Value.type "tuple",data:=Data.seq #[Value.type "ValueError"] },{ cls:=Value.type "builtin_function_or_method",data:=Data.fields #[Value.builtin "type.__prepare__",Value.type "type"] },o80 P,tE,nE,o83 P,{ cls:=Value.type "frame",slots:=#[some (Value.ref 83),some (Value.ref 3),some (Value.ref 80),none,some (Value.str (Str.ofString "movehouse.errors") 269),none,some (Value.ref 0)] },tE,o86 P,{ cls:=Value.type "type",data:=Data.cls { name:=Str.ofString "MoveError",bases:=[Value.type "ValueError"],mro:=[Value.ref 87,Value.type "ValueError",Value.type "Exception",Value.type "BaseException",Value.type "object"],ns:=86,qualname:=Str.ofString "MoveError",subclasses:=[Value.ref 100] },slots:=#[some (Value.ref 78),none,some (Value.str (Str.ofString "MoveError") 271),some (Value.str (Str.ofString "MoveError") 279),some (Value.builtin "ValueError.__new__"),some (Value.bool true)] },{ cls:=Value.type "getset_descriptor",data:=Data.fields #[Value.str (Str.ofString "__weakref__") 284,Value.ref 87,Value.builtin "ExceptionGroup.__weakref__",Value.none] },{ cls:=Value.type "super",data:=Data.fields #[Value.ref 87,Value.ref 87,Value.ref 87] },{ cls:=Value.type "builtin_function_or_method",data:=Data.fields #[Value.builtin "object.__init_subclass__",Value.ref 87] },{ cls:=Value.type "tuple",data:=Data.seq #[Value.ref 87] },{ cls:=Value.type "builtin_function_or_method",data:=Data.fields #[Value.builtin "type.__prepare__",Value.type "type"] },o93 P,tE,nE,o96 P,{ cls:=Value.type "frame",slots:=#[some (Value.ref 96),some (Value.ref 3),some (Value.ref 93),none,some (Value.str (Str.ofString "movehouse.errors") 269),none,some (Value.ref 0)] },tE,o99 P,o100 P,{ cls:=Value.type "super",data:=Data.fields #[Value.ref 100,Value.ref 100,Value.ref 100] },{ cls:=Value.type "builtin_function_or_method",data:=Data.fields #[Value.builtin "object.__init_subclass__",Value.ref 100] }]
noncomputable def S1 (w:World) (os:OsState):Shared:=⟨⟨⟨hp1 w.params⟩,{ }⟩,#[],{ },305,os⟩
noncomputable def d3v2 (P:Params):List DictEntry:=(d3v1 P) ++ [eR P "NoCaller" (nat_lit 320) (nat_lit 112),eR P "NoHouse" (nat_lit 336) (nat_lit 124)]
noncomputable def o105 (P:Params):Obj:=dE (nat_lit 4) [eS P "__module__" (nat_lit 312) "movehouse.errors" (nat_lit 269),eS P "__qualname__" (nat_lit 314) "NoCaller" (nat_lit 313),eV P "__firstlineno__" (nat_lit 316) (Value.int 37 315),eR P "__static_attributes__" (nat_lit 317) (nat_lit 110)]
noncomputable def o108 (P:Params):Obj:={ cls:=Value.type "code",data:=Data.fields #[Value.str (Str.ofString "NoCaller") 307,Value.str (Str.ofString "NoCaller") 308,Value.str (Str.ofString "/claim/cut.py") 309,Value.int 37 0,Value.int 0 0,Value.int 0 0,Value.int 0 0,Value.int 0 0,Value.ref 106,Value.bool false,Value.int 181 0,Value.ref 107,Value.none,Value.none,Value.none,Value.none,Value.int 310 0,Value.int 37 0,Value.str (Str.ofString "/claim/cut.py") 311] }
noncomputable def o111 (P:Params):Obj:=dE (nat_lit 2) [eS P "__module__" (nat_lit 312) "movehouse.errors" (nat_lit 269),eV P "__firstlineno__" (nat_lit 316) (Value.int 37 315),eR P "__static_attributes__" (nat_lit 317) (nat_lit 110),eV P "__doc__" (nat_lit 318) (Value.none)]
noncomputable def o112 (P:Params):Obj:={ cls:=Value.type "type",data:=Data.cls { name:=Str.ofString "NoCaller",bases:=[Value.ref 87],mro:=[Value.ref 112,Value.ref 87,Value.type "ValueError",Value.type "Exception",Value.type "BaseException",Value.type "object"],ns:=111,qualname:=Str.ofString "NoCaller" },slots:=#[some (Value.ref 103),none,some (Value.str (Str.ofString "NoCaller") 305),some (Value.str (Str.ofString "NoCaller") 313),some (Value.builtin "ValueError.__new__"),some (Value.bool true)] }
noncomputable def o117 (P:Params):Obj:=dE (nat_lit 4) [eS P "__module__" (nat_lit 328) "movehouse.errors" (nat_lit 269),eS P "__qualname__" (nat_lit 330) "NoHouse" (nat_lit 329),eV P "__firstlineno__" (nat_lit 332) (Value.int 39 331),eR P "__static_attributes__" (nat_lit 333) (nat_lit 122)]
noncomputable def o120 (P:Params):Obj:={ cls:=Value.type "code",data:=Data.fields #[Value.str (Str.ofString "NoHouse") 323,Value.str (Str.ofString "NoHouse") 324,Value.str (Str.ofString "/claim/cut.py") 325,Value.int 39 0,Value.int 0 0,Value.int 0 0,Value.int 0 0,Value.int 0 0,Value.ref 118,Value.bool false,Value.int 181 0,Value.ref 119,Value.none,Value.none,Value.none,Value.none,Value.int 326 0,Value.int 39 0,Value.str (Str.ofString "/claim/cut.py") 327] }
noncomputable def o123 (P:Params):Obj:=dE (nat_lit 2) [eS P "__module__" (nat_lit 328) "movehouse.errors" (nat_lit 269),eV P "__firstlineno__" (nat_lit 332) (Value.int 39 331),eR P "__static_attributes__" (nat_lit 333) (nat_lit 122),eV P "__doc__" (nat_lit 334) (Value.none)]
noncomputable def o124 (P:Params):Obj:={ cls:=Value.type "type",data:=Data.cls { name:=Str.ofString "NoHouse",bases:=[Value.ref 87],mro:=[Value.ref 124,Value.ref 87,Value.type "ValueError",Value.type "Exception",Value.type "BaseException",Value.type "object"],ns:=123,qualname:=Str.ofString "NoHouse" },slots:=#[some (Value.ref 115),none,some (Value.str (Str.ofString "NoHouse") 321),some (Value.str (Str.ofString "NoHouse") 329),some (Value.builtin "ValueError.__new__"),some (Value.bool true)] }
noncomputable def hp2 (P:Params):List Obj:=((((hp1 P).set 3 (dE (nat_lit 15) (d3v2 P))).set 12 (pO [(1,0,20),(5,0,27),(33,0,83),(35,0,96),(37,0,108),(39,0,120)])).set 87 ({ cls:=Value.type "type",data:=Data.cls { name:=Str.ofString "MoveError",bases:=[Value.type "ValueError"],mro:=[Value.ref 87,Value.type "ValueError",Value.type "Exception",Value.type "BaseException",Value.type "object"],ns:=86,qualname:=Str.ofString "MoveError",subclasses:=[Value.ref 100,Value.ref 112,Value.ref 124] },slots:=#[some (Value.ref 78),none,some (Value.str (Str.ofString "MoveError") 271),some (Value.str (Str.ofString "MoveError") 279),some (Value.builtin "ValueError.__new__"),some (Value.bool true)] })) ++ [{ cls:=Value.type "tuple",data:=Data.seq #[Value.ref 87] },{ cls:=Value.type "builtin_function_or_method",data:=Data.fields #[Value.builtin "type.__prepare__",Value.type "type"] },o105 P,tE,nE,o108 P,{ cls:=Value.type "frame",slots:=#[some (Value.ref 108),some (Value.ref 3),some (Value.ref 105),none,some (Value.str (Str.ofString "movehouse.errors") 269),none,some (Value.ref 0)] },tE,o111 P,o112 P,{ cls:=Value.type "super",data:=Data.fields #[Value.ref 112,Value.ref 112,Value.ref 112] },{ cls:=Value.type "builtin_function_or_method",data:=Data.fields #[Value.builtin "object.__init_subclass__",Value.ref 112] },{ cls:=Value.type "tuple",data:=Data.seq #[Value.ref 87] },{ cls:=Value.type "builtin_function_or_method",data:=Data.fields #[Value.builtin "type.__prepare__",Value.type "type"] },o117 P,tE,nE,o120 P,{ cls:=Value.type "frame",slots:=#[some (Value.ref 120),some (Value.ref 3),some (Value.ref 117),none,some (Value.str (Str.ofString "movehouse.errors") 269),none,some (Value.ref 0)] },tE,o123 P,o124 P,{ cls:=Value.type "super",data:=Data.fields #[Value.ref 124,Value.ref 124,Value.ref 124] },{ cls:=Value.type "builtin_function_or_method",data:=Data.fields #[Value.builtin "object.__init_subclass__",Value.ref 124] }]
noncomputable def S2 (w:World) (os:OsState):Shared:=⟨⟨⟨hp2 w.params⟩,{ }⟩,#[],{ },337,os⟩
noncomputable def d3v3 (P:Params):List DictEntry:=(d3v2 P) ++ [eR P "NoKey" (nat_lit 352) (nat_lit 136),eR P "BadWish" (nat_lit 368) (nat_lit 148)]
noncomputable def o129 (P:Params):Obj:=dE (nat_lit 4) [eS P "__module__" (nat_lit 344) "movehouse.errors" (nat_lit 269),eS P "__qualname__" (nat_lit 346) "NoKey" (nat_lit 345),eV P "__firstlineno__" (nat_lit 348) (Value.int 41 347),eR P "__static_attributes__" (nat_lit 349) (nat_lit 134)]
noncomputable def o132 (P:Params):Obj:={ cls:=Value.type "code",data:=Data.fields #[Value.str (Str.ofString "NoKey") 339,Value.str (Str.ofString "NoKey") 340,Value.str (Str.ofString "/claim/cut.py") 341,Value.int 41 0,Value.int 0 0,Value.int 0 0,Value.int 0 0,Value.int 0 0,Value.ref 130,Value.bool false,Value.int 181 0,Value.ref 131,Value.none,Value.none,Value.none,Value.none,Value.int 342 0,Value.int 41 0,Value.str (Str.ofString "/claim/cut.py") 343] }
noncomputable def o135 (P:Params):Obj:=dE (nat_lit 2) [eS P "__module__" (nat_lit 344) "movehouse.errors" (nat_lit 269),eV P "__firstlineno__" (nat_lit 348) (Value.int 41 347),eR P "__static_attributes__" (nat_lit 349) (nat_lit 134),eV P "__doc__" (nat_lit 350) (Value.none)]
noncomputable def o136 (P:Params):Obj:={ cls:=Value.type "type",data:=Data.cls { name:=Str.ofString "NoKey",bases:=[Value.ref 87],mro:=[Value.ref 136,Value.ref 87,Value.type "ValueError",Value.type "Exception",Value.type "BaseException",Value.type "object"],ns:=135,qualname:=Str.ofString "NoKey" },slots:=#[some (Value.ref 127),none,some (Value.str (Str.ofString "NoKey") 337),some (Value.str (Str.ofString "NoKey") 345),some (Value.builtin "ValueError.__new__"),some (Value.bool true)] }
noncomputable def o141 (P:Params):Obj:=dE (nat_lit 4) [eS P "__module__" (nat_lit 360) "movehouse.errors" (nat_lit 269),eS P "__qualname__" (nat_lit 362) "BadWish" (nat_lit 361),eV P "__firstlineno__" (nat_lit 364) (Value.int 43 363),eR P "__static_attributes__" (nat_lit 365) (nat_lit 146)]
noncomputable def o144 (P:Params):Obj:={ cls:=Value.type "code",data:=Data.fields #[Value.str (Str.ofString "BadWish") 355,Value.str (Str.ofString "BadWish") 356,Value.str (Str.ofString "/claim/cut.py") 357,Value.int 43 0,Value.int 0 0,Value.int 0 0,Value.int 0 0,Value.int 0 0,Value.ref 142,Value.bool false,Value.int 181 0,Value.ref 143,Value.none,Value.none,Value.none,Value.none,Value.int 358 0,Value.int 43 0,Value.str (Str.ofString "/claim/cut.py") 359] }
noncomputable def o147 (P:Params):Obj:=dE (nat_lit 2) [eS P "__module__" (nat_lit 360) "movehouse.errors" (nat_lit 269),eV P "__firstlineno__" (nat_lit 364) (Value.int 43 363),eR P "__static_attributes__" (nat_lit 365) (nat_lit 146),eV P "__doc__" (nat_lit 366) (Value.none)]
noncomputable def o148 (P:Params):Obj:={ cls:=Value.type "type",data:=Data.cls { name:=Str.ofString "BadWish",bases:=[Value.ref 87],mro:=[Value.ref 148,Value.ref 87,Value.type "ValueError",Value.type "Exception",Value.type "BaseException",Value.type "object"],ns:=147,qualname:=Str.ofString "BadWish" },slots:=#[some (Value.ref 139),none,some (Value.str (Str.ofString "BadWish") 353),some (Value.str (Str.ofString "BadWish") 361),some (Value.builtin "ValueError.__new__"),some (Value.bool true)] }
noncomputable def hp3 (P:Params):List Obj:=((((hp2 P).set 3 (dE (nat_lit 17) (d3v3 P))).set 12 (pO [(1,0,20),(5,0,27),(33,0,83),(35,0,96),(37,0,108),(39,0,120),(41,0,132),(43,0,144)])).set 87 ({ cls:=Value.type "type",data:=Data.cls { name:=Str.ofString "MoveError",bases:=[Value.type "ValueError"],mro:=[Value.ref 87,Value.type "ValueError",Value.type "Exception",Value.type "BaseException",Value.type "object"],ns:=86,qualname:=Str.ofString "MoveError",subclasses:=[Value.ref 100,Value.ref 112,Value.ref 124,Value.ref 136,Value.ref 148] },slots:=#[some (Value.ref 78),none,some (Value.str (Str.ofString "MoveError") 271),some (Value.str (Str.ofString "MoveError") 279),some (Value.builtin "ValueError.__new__"),some (Value.bool true)] })) ++ [{ cls:=Value.type "tuple",data:=Data.seq #[Value.ref 87] },{ cls:=Value.type "builtin_function_or_method",data:=Data.fields #[Value.builtin "type.__prepare__",Value.type "type"] },o129 P,tE,nE,o132 P,{ cls:=Value.type "frame",slots:=#[some (Value.ref 132),some (Value.ref 3),some (Value.ref 129),none,some (Value.str (Str.ofString "movehouse.errors") 269),none,some (Value.ref 0)] },tE,o135 P,o136 P,{ cls:=Value.type "super",data:=Data.fields #[Value.ref 136,Value.ref 136,Value.ref 136] },{ cls:=Value.type "builtin_function_or_method",data:=Data.fields #[Value.builtin "object.__init_subclass__",Value.ref 136] },{ cls:=Value.type "tuple",data:=Data.seq #[Value.ref 87] },{ cls:=Value.type "builtin_function_or_method",data:=Data.fields #[Value.builtin "type.__prepare__",Value.type "type"] },o141 P,tE,nE,o144 P,{ cls:=Value.type "frame",slots:=#[some (Value.ref 144),some (Value.ref 3),some (Value.ref 141),none,some (Value.str (Str.ofString "movehouse.errors") 269),none,some (Value.ref 0)] },tE,o147 P,o148 P,{ cls:=Value.type "super",data:=Data.fields #[Value.ref 148,Value.ref 148,Value.ref 148] },{ cls:=Value.type "builtin_function_or_method",data:=Data.fields #[Value.builtin "object.__init_subclass__",Value.ref 148] }]
noncomputable def S3 (w:World) (os:OsState):Shared:=⟨⟨⟨hp3 w.params⟩,{ }⟩,#[],{ },369,os⟩
noncomputable def d3v4 (P:Params):List DictEntry:=(d3v3 P) ++ [eR P "Busy" (nat_lit 384) (nat_lit 160),eR P "Idle" (nat_lit 400) (nat_lit 172)]
noncomputable def o153 (P:Params):Obj:=dE (nat_lit 4) [eS P "__module__" (nat_lit 376) "movehouse.errors" (nat_lit 269),eS P "__qualname__" (nat_lit 378) "Busy" (nat_lit 377),eV P "__firstlineno__" (nat_lit 380) (Value.int 45 379),eR P "__static_attributes__" (nat_lit 381) (nat_lit 158)]
noncomputable def o156 (P:Params):Obj:={ cls:=Value.type "code",data:=Data.fields #[Value.str (Str.ofString "Busy") 371,Value.str (Str.ofString "Busy") 372,Value.str (Str.ofString "/claim/cut.py") 373,Value.int 45 0,Value.int 0 0,Value.int 0 0,Value.int 0 0,Value.int 0 0,Value.ref 154,Value.bool false,Value.int 181 0,Value.ref 155,Value.none,Value.none,Value.none,Value.none,Value.int 374 0,Value.int 45 0,Value.str (Str.ofString "/claim/cut.py") 375] }
noncomputable def o159 (P:Params):Obj:=dE (nat_lit 2) [eS P "__module__" (nat_lit 376) "movehouse.errors" (nat_lit 269),eV P "__firstlineno__" (nat_lit 380) (Value.int 45 379),eR P "__static_attributes__" (nat_lit 381) (nat_lit 158),eV P "__doc__" (nat_lit 382) (Value.none)]
noncomputable def o160 (P:Params):Obj:={ cls:=Value.type "type",data:=Data.cls { name:=Str.ofString "Busy",bases:=[Value.ref 87],mro:=[Value.ref 160,Value.ref 87,Value.type "ValueError",Value.type "Exception",Value.type "BaseException",Value.type "object"],ns:=159,qualname:=Str.ofString "Busy" },slots:=#[some (Value.ref 151),none,some (Value.str (Str.ofString "Busy") 369),some (Value.str (Str.ofString "Busy") 377),some (Value.builtin "ValueError.__new__"),some (Value.bool true)] }
noncomputable def o165 (P:Params):Obj:=dE (nat_lit 4) [eS P "__module__" (nat_lit 392) "movehouse.errors" (nat_lit 269),eS P "__qualname__" (nat_lit 394) "Idle" (nat_lit 393),eV P "__firstlineno__" (nat_lit 396) (Value.int 47 395),eR P "__static_attributes__" (nat_lit 397) (nat_lit 170)]
noncomputable def o168 (P:Params):Obj:={ cls:=Value.type "code",data:=Data.fields #[Value.str (Str.ofString "Idle") 387,Value.str (Str.ofString "Idle") 388,Value.str (Str.ofString "/claim/cut.py") 389,Value.int 47 0,Value.int 0 0,Value.int 0 0,Value.int 0 0,Value.int 0 0,Value.ref 166,Value.bool false,Value.int 181 0,Value.ref 167,Value.none,Value.none,Value.none,Value.none,Value.int 390 0,Value.int 47 0,Value.str (Str.ofString "/claim/cut.py") 391] }
noncomputable def o171 (P:Params):Obj:=dE (nat_lit 2) [eS P "__module__" (nat_lit 392) "movehouse.errors" (nat_lit 269),eV P "__firstlineno__" (nat_lit 396) (Value.int 47 395),eR P "__static_attributes__" (nat_lit 397) (nat_lit 170),eV P "__doc__" (nat_lit 398) (Value.none)]
noncomputable def o172 (P:Params):Obj:={ cls:=Value.type "type",data:=Data.cls { name:=Str.ofString "Idle",bases:=[Value.ref 87],mro:=[Value.ref 172,Value.ref 87,Value.type "ValueError",Value.type "Exception",Value.type "BaseException",Value.type "object"],ns:=171,qualname:=Str.ofString "Idle" },slots:=#[some (Value.ref 163),none,some (Value.str (Str.ofString "Idle") 385),some (Value.str (Str.ofString "Idle") 393),some (Value.builtin "ValueError.__new__"),some (Value.bool true)] }
noncomputable def hp4 (P:Params):List Obj:=((((hp3 P).set 3 (dE (nat_lit 19) (d3v4 P))).set 12 (pO [(1,0,20),(5,0,27),(33,0,83),(35,0,96),(37,0,108),(39,0,120),(41,0,132),(43,0,144),(45,0,156),(47,0,168)])).set 87 ({ cls:=Value.type "type",data:=Data.cls { name:=Str.ofString "MoveError",bases:=[Value.type "ValueError"],mro:=[Value.ref 87,Value.type "ValueError",Value.type "Exception",Value.type "BaseException",Value.type "object"],ns:=86,qualname:=Str.ofString "MoveError",subclasses:=[Value.ref 100,Value.ref 112,Value.ref 124,Value.ref 136,Value.ref 148,Value.ref 160,Value.ref 172] },slots:=#[some (Value.ref 78),none,some (Value.str (Str.ofString "MoveError") 271),some (Value.str (Str.ofString "MoveError") 279),some (Value.builtin "ValueError.__new__"),some (Value.bool true)] })) ++ [{ cls:=Value.type "tuple",data:=Data.seq #[Value.ref 87] },{ cls:=Value.type "builtin_function_or_method",data:=Data.fields #[Value.builtin "type.__prepare__",Value.type "type"] },o153 P,tE,nE,o156 P,{ cls:=Value.type "frame",slots:=#[some (Value.ref 156),some (Value.ref 3),some (Value.ref 153),none,some (Value.str (Str.ofString "movehouse.errors") 269),none,some (Value.ref 0)] },tE,o159 P,o160 P,{ cls:=Value.type "super",data:=Data.fields #[Value.ref 160,Value.ref 160,Value.ref 160] },{ cls:=Value.type "builtin_function_or_method",data:=Data.fields #[Value.builtin "object.__init_subclass__",Value.ref 160] },{ cls:=Value.type "tuple",data:=Data.seq #[Value.ref 87] },{ cls:=Value.type "builtin_function_or_method",data:=Data.fields #[Value.builtin "type.__prepare__",Value.type "type"] },o165 P,tE,nE,o168 P,{ cls:=Value.type "frame",slots:=#[some (Value.ref 168),some (Value.ref 3),some (Value.ref 165),none,some (Value.str (Str.ofString "movehouse.errors") 269),none,some (Value.ref 0)] },tE,o171 P,o172 P,{ cls:=Value.type "super",data:=Data.fields #[Value.ref 172,Value.ref 172,Value.ref 172] },{ cls:=Value.type "builtin_function_or_method",data:=Data.fields #[Value.builtin "object.__init_subclass__",Value.ref 172] }]
noncomputable def S4 (w:World) (os:OsState):Shared:=⟨⟨⟨hp4 w.params⟩,{ }⟩,#[],{ },401,os⟩
noncomputable def d3v5 (P:Params):List DictEntry:=((d3v4 P).set 0 (eS P "__name__" (nat_lit 165) "movehouse.desk" (nat_lit 433))) ++ [eR P "NotHere" (nat_lit 416) (nat_lit 184),eR P "NoLetter" (nat_lit 432) (nat_lit 196),eV P "GREATEST" (nat_lit 438) (Value.int 1000000000000000000000000000000 437)]
noncomputable def o87 (P:Params):Obj:={ cls:=Value.type "type",data:=Data.cls { name:=Str.ofString "MoveError",bases:=[Value.type "ValueError"],mro:=[Value.ref 87,Value.type "ValueError",Value.type "Exception",Value.type "BaseException",Value.type "object"],ns:=86,qualname:=Str.ofString "MoveError",subclasses:=[Value.ref 100,Value.ref 112,Value.ref 124,Value.ref 136,Value.ref 148,Value.ref 160,Value.ref 172,Value.ref 184,Value.ref 196] },slots:=#[some (Value.ref 78),none,some (Value.str (Str.ofString "MoveError") 271),some (Value.str (Str.ofString "MoveError") 279),some (Value.builtin "ValueError.__new__"),some (Value.bool true)] }
noncomputable def o177 (P:Params):Obj:=dE (nat_lit 4) [eS P "__module__" (nat_lit 408) "movehouse.errors" (nat_lit 269),eS P "__qualname__" (nat_lit 410) "NotHere" (nat_lit 409),eV P "__firstlineno__" (nat_lit 412) (Value.int 49 411),eR P "__static_attributes__" (nat_lit 413) (nat_lit 182)]
noncomputable def o180 (P:Params):Obj:={ cls:=Value.type "code",data:=Data.fields #[Value.str (Str.ofString "NotHere") 403,Value.str (Str.ofString "NotHere") 404,Value.str (Str.ofString "/claim/cut.py") 405,Value.int 49 0,Value.int 0 0,Value.int 0 0,Value.int 0 0,Value.int 0 0,Value.ref 178,Value.bool false,Value.int 181 0,Value.ref 179,Value.none,Value.none,Value.none,Value.none,Value.int 406 0,Value.int 49 0,Value.str (Str.ofString "/claim/cut.py") 407] }
noncomputable def o183 (P:Params):Obj:=dE (nat_lit 2) [eS P "__module__" (nat_lit 408) "movehouse.errors" (nat_lit 269),eV P "__firstlineno__" (nat_lit 412) (Value.int 49 411),eR P "__static_attributes__" (nat_lit 413) (nat_lit 182),eV P "__doc__" (nat_lit 414) (Value.none)]
noncomputable def o184 (P:Params):Obj:={ cls:=Value.type "type",data:=Data.cls { name:=Str.ofString "NotHere",bases:=[Value.ref 87],mro:=[Value.ref 184,Value.ref 87,Value.type "ValueError",Value.type "Exception",Value.type "BaseException",Value.type "object"],ns:=183,qualname:=Str.ofString "NotHere" },slots:=#[some (Value.ref 175),none,some (Value.str (Str.ofString "NotHere") 401),some (Value.str (Str.ofString "NotHere") 409),some (Value.builtin "ValueError.__new__"),some (Value.bool true)] }
noncomputable def o189 (P:Params):Obj:=dE (nat_lit 4) [eS P "__module__" (nat_lit 424) "movehouse.errors" (nat_lit 269),eS P "__qualname__" (nat_lit 426) "NoLetter" (nat_lit 425),eV P "__firstlineno__" (nat_lit 428) (Value.int 51 427),eR P "__static_attributes__" (nat_lit 429) (nat_lit 194)]
noncomputable def o192 (P:Params):Obj:={ cls:=Value.type "code",data:=Data.fields #[Value.str (Str.ofString "NoLetter") 419,Value.str (Str.ofString "NoLetter") 420,Value.str (Str.ofString "/claim/cut.py") 421,Value.int 51 0,Value.int 0 0,Value.int 0 0,Value.int 0 0,Value.int 0 0,Value.ref 190,Value.bool false,Value.int 181 0,Value.ref 191,Value.none,Value.none,Value.none,Value.none,Value.int 422 0,Value.int 51 0,Value.str (Str.ofString "/claim/cut.py") 423] }
noncomputable def o195 (P:Params):Obj:=dE (nat_lit 2) [eS P "__module__" (nat_lit 424) "movehouse.errors" (nat_lit 269),eV P "__firstlineno__" (nat_lit 428) (Value.int 51 427),eR P "__static_attributes__" (nat_lit 429) (nat_lit 194),eV P "__doc__" (nat_lit 430) (Value.none)]
noncomputable def o196 (P:Params):Obj:={ cls:=Value.type "type",data:=Data.cls { name:=Str.ofString "NoLetter",bases:=[Value.ref 87],mro:=[Value.ref 196,Value.ref 87,Value.type "ValueError",Value.type "Exception",Value.type "BaseException",Value.type "object"],ns:=195,qualname:=Str.ofString "NoLetter" },slots:=#[some (Value.ref 187),none,some (Value.str (Str.ofString "NoLetter") 417),some (Value.str (Str.ofString "NoLetter") 425),some (Value.builtin "ValueError.__new__"),some (Value.bool true)] }
noncomputable def hp5 (P:Params):List Obj:=((((hp4 P).set 3 (dE (nat_lit 22) (d3v5 P))).set 12 (pO [(1,0,20),(5,0,27),(33,0,83),(35,0,96),(37,0,108),(39,0,120),(41,0,132),(43,0,144),(45,0,156),(47,0,168),(49,0,180),(51,0,192)])).set 87 (o87 P)) ++ [{ cls:=Value.type "tuple",data:=Data.seq #[Value.ref 87] },{ cls:=Value.type "builtin_function_or_method",data:=Data.fields #[Value.builtin "type.__prepare__",Value.type "type"] },o177 P,tE,nE,o180 P,{ cls:=Value.type "frame",slots:=#[some (Value.ref 180),some (Value.ref 3),some (Value.ref 177),none,some (Value.str (Str.ofString "movehouse.errors") 269),none,some (Value.ref 0)] },tE,o183 P,o184 P,{ cls:=Value.type "super",data:=Data.fields #[Value.ref 184,Value.ref 184,Value.ref 184] },{ cls:=Value.type "builtin_function_or_method",data:=Data.fields #[Value.builtin "object.__init_subclass__",Value.ref 184] },{ cls:=Value.type "tuple",data:=Data.seq #[Value.ref 87] },{ cls:=Value.type "builtin_function_or_method",data:=Data.fields #[Value.builtin "type.__prepare__",Value.type "type"] },o189 P,tE,nE,o192 P,{ cls:=Value.type "frame",slots:=#[some (Value.ref 192),some (Value.ref 3),some (Value.ref 189),none,some (Value.str (Str.ofString "movehouse.errors") 269),none,some (Value.ref 0)] },tE,o195 P,o196 P,{ cls:=Value.type "super",data:=Data.fields #[Value.ref 196,Value.ref 196,Value.ref 196] },{ cls:=Value.type "builtin_function_or_method",data:=Data.fields #[Value.builtin "object.__init_subclass__",Value.ref 196] }]
noncomputable def S5 (w:World) (os:OsState):Shared:=⟨⟨⟨hp5 w.params⟩,{ }⟩,#[],{ },439,os⟩
noncomputable def d3v6 (P:Params):List DictEntry:=((d3v5 P).set 0 (eS P "__name__" (nat_lit 165) "movehouse.houses" (nat_lit 461))) ++ [eR P "is_whole" (nat_lit 445) (nat_lit 205),eR P "need_wish" (nat_lit 452) (nat_lit 212),eR P "done" (nat_lit 460) (nat_lit 219)]
noncomputable def o204 (P:Params):Obj:=cO "is_whole" "is_whole" (nat_lit 439) (nat_lit 199) (nat_lit 443) 55 1
noncomputable def o205 (P:Params):Obj:=fO "is_whole" "is_whole" (fnIn bd 16) "movehouse.desk" (nat_lit 433) (nat_lit 204)
noncomputable def o211 (P:Params):Obj:=cO "need_wish" "need_wish" (nat_lit 446) (nat_lit 206) (nat_lit 450) 57 1
noncomputable def o212 (P:Params):Obj:=fO "need_wish" "need_wish" (fnIn bd 17) "movehouse.desk" (nat_lit 433) (nat_lit 211)
noncomputable def o218 (P:Params):Obj:=cO "done" "done" (nat_lit 453) (nat_lit 213) (nat_lit 458) 66 2
noncomputable def o219 (P:Params):Obj:=fO "done" "done" (fnIn bd 18) "movehouse.desk" (nat_lit 433) (nat_lit 218)
noncomputable def hp6 (P:Params):List Obj:=(((hp5 P).set 3 (dE (nat_lit 25) (d3v6 P))).set 12 (pO [(1,0,20),(5,0,27),(33,0,83),(35,0,96),(37,0,108),(39,0,120),(41,0,132),(43,0,144),(45,0,156),(47,0,168),(49,0,180),(51,0,192),(55,0,204),(57,0,211),(66,0,218)])) ++ [tE,nE,tS (nat_lit 442) ["thing"],tE,gO "is_whole" "is_whole" (fnIn bd 16),o204 P,o205 P,tE,nE,tS (nat_lit 449) ["wish"],tE,gO "need_wish" "need_wish" (fnIn bd 17),o211 P,o212 P,tE,nE,tS (nat_lit 456) ["amount","wish"],tE,gO "done" "done" (fnIn bd 18),o218 P,o219 P]
noncomputable def S6 (w:World) (os:OsState):Shared:=⟨⟨⟨hp6 w.params⟩,{ }⟩,#[],{ },463,os⟩
noncomputable def d3v7 (P:Params):List DictEntry:=(d3v6 P) ++ [eR P "House" (nat_lit 565) (nat_lit 293)]
noncomputable def o222 (P:Params):Obj:=dE (nat_lit 14) [eS P "__module__" (nat_lit 470) "movehouse.houses" (nat_lit 461),eS P "__qualname__" (nat_lit 472) "House" (nat_lit 471),eV P "__firstlineno__" (nat_lit 474) (Value.int 73 473),eR P "__init__" (nat_lit 484) (nat_lit 233),eR P "has" (nat_lit 492) (nat_lit 240),eR P "owes" (nat_lit 498) (nat_lit 245),eR P "came" (nat_lit 507) (nat_lit 252),eR P "called" (nat_lit 513) (nat_lit 257),eR P "parcel" (nat_lit 522) (nat_lit 264),eR P "move" (nat_lit 531) (nat_lit 271),eR P "write" (nat_lit 539) (nat_lit 278),eR P "sleep" (nat_lit 546) (nat_lit 285),eR P "nudge" (nat_lit 552) (nat_lit 290),eR P "__static_attributes__" (nat_lit 558) (nat_lit 291)]
noncomputable def o225 (P:Params):Obj:={ cls:=Value.type "code",data:=Data.fields #[Value.str (Str.ofString "House") 465,Value.str (Str.ofString "House") 466,Value.str (Str.ofString "/claim/cut.py") 467,Value.int 73 0,Value.int 0 0,Value.int 0 0,Value.int 0 0,Value.int 0 0,Value.ref 223,Value.bool false,Value.int 181 0,Value.ref 224,Value.none,Value.none,Value.none,Value.none,Value.int 468 0,Value.int 73 0,Value.str (Str.ofString "/claim/cut.py") 469] }
noncomputable def o232 (P:Params):Obj:=cO "__init__" "House.__init__" (nat_lit 475) (nat_lit 227) (nat_lit 482) 75 3
noncomputable def o233 (P:Params):Obj:=fO "__init__" "House.__init__" (fnIn (clsIn_ bd 20) 0) "movehouse.houses" (nat_lit 461) (nat_lit 232)
noncomputable def o239 (P:Params):Obj:=cO "has" "House.has" (nat_lit 485) (nat_lit 234) (nat_lit 490) 86 2
noncomputable def o240 (P:Params):Obj:=fO "has" "House.has" (fnIn (clsIn_ bd 20) 1) "movehouse.houses" (nat_lit 461) (nat_lit 239)
noncomputable def o244 (P:Params):Obj:=kO "owes" "House.owes" (nat_lit 493) (nat_lit 241) (nat_lit 496) 89 1
noncomputable def o245 (P:Params):Obj:=fO "owes" "House.owes" (fnIn (clsIn_ bd 20) 2) "movehouse.houses" (nat_lit 461) (nat_lit 244)
noncomputable def o251 (P:Params):Obj:=cO "came" "House.came" (nat_lit 499) (nat_lit 246) (nat_lit 505) 92 2
noncomputable def o252 (P:Params):Obj:=fO "came" "House.came" (fnIn (clsIn_ bd 20) 3) "movehouse.houses" (nat_lit 461) (nat_lit 251)
noncomputable def o256 (P:Params):Obj:=kO "called" "House.called" (nat_lit 508) (nat_lit 253) (nat_lit 511) 105 5
noncomputable def o257 (P:Params):Obj:=fO "called" "House.called" (fnIn (clsIn_ bd 20) 4) "movehouse.houses" (nat_lit 461) (nat_lit 256)
noncomputable def o263 (P:Params):Obj:=cO "parcel" "House.parcel" (nat_lit 514) (nat_lit 258) (nat_lit 520) 119 3
noncomputable def o264 (P:Params):Obj:=fO "parcel" "House.parcel" (fnIn (clsIn_ bd 20) 5) "movehouse.houses" (nat_lit 461) (nat_lit 263)
noncomputable def o270 (P:Params):Obj:=cO "move" "House.move" (nat_lit 523) (nat_lit 265) (nat_lit 529) 122 2
noncomputable def o271 (P:Params):Obj:=fO "move" "House.move" (fnIn (clsIn_ bd 20) 6) "movehouse.houses" (nat_lit 461) (nat_lit 270)
noncomputable def o277 (P:Params):Obj:=cO "write" "House.write" (nat_lit 532) (nat_lit 272) (nat_lit 537) 129 1
noncomputable def o278 (P:Params):Obj:=fO "write" "House.write" (fnIn (clsIn_ bd 20) 7) "movehouse.houses" (nat_lit 461) (nat_lit 277)
noncomputable def o284 (P:Params):Obj:=cO "sleep" "House.sleep" (nat_lit 540) (nat_lit 279) (nat_lit 544) 136 1
noncomputable def o285 (P:Params):Obj:=fO "sleep" "House.sleep" (fnIn (clsIn_ bd 20) 8) "movehouse.houses" (nat_lit 461) (nat_lit 284)
noncomputable def o289 (P:Params):Obj:=kO "nudge" "House.nudge" (nat_lit 547) (nat_lit 286) (nat_lit 550) 141 1
noncomputable def o290 (P:Params):Obj:=fO "nudge" "House.nudge" (fnIn (clsIn_ bd 20) 9) "movehouse.houses" (nat_lit 461) (nat_lit 289)
noncomputable def o292 (P:Params):Obj:=dE (nat_lit 4) [eS P "__module__" (nat_lit 470) "movehouse.houses" (nat_lit 461),eV P "__firstlineno__" (nat_lit 474) (Value.int 73 473),eR P "__init__" (nat_lit 484) (nat_lit 233),eR P "has" (nat_lit 492) (nat_lit 240),eR P "owes" (nat_lit 498) (nat_lit 245),eR P "came" (nat_lit 507) (nat_lit 252),eR P "called" (nat_lit 513) (nat_lit 257),eR P "parcel" (nat_lit 522) (nat_lit 264),eR P "move" (nat_lit 531) (nat_lit 271),eR P "write" (nat_lit 539) (nat_lit 278),eR P "sleep" (nat_lit 546) (nat_lit 285),eR P "nudge" (nat_lit 552) (nat_lit 290),eR P "__static_attributes__" (nat_lit 558) (nat_lit 291),eR P "__dict__" (nat_lit 560) (nat_lit 294),eR P "__weakref__" (nat_lit 562) (nat_lit 295),eV P "__doc__" (nat_lit 563) (Value.none)]
noncomputable def o293 (P:Params):Obj:={ cls:=Value.type "type",data:=Data.cls { name:=Str.ofString "House",bases:=[Value.type "object"],mro:=[Value.ref 293,Value.type "object"],ns:=292,qualname:=Str.ofString "House" },slots:=#[none,none,some (Value.str (Str.ofString "House") 463),some (Value.str (Str.ofString "House") 471),some (Value.builtin "object.__new__"),some (Value.bool true)] }
noncomputable def hp7 (P:Params):List Obj:=(((hp6 P).set 3 (dE (nat_lit 26) (d3v7 P))).set 12 (pO [(1,0,20),(5,0,27),(33,0,83),(35,0,96),(37,0,108),(39,0,120),(41,0,132),(43,0,144),(45,0,156),(47,0,168),(49,0,180),(51,0,192),(55,0,204),(57,0,211),(66,0,218),(73,0,225)])) ++ [tE,{ cls:=Value.type "builtin_function_or_method",data:=Data.fields #[Value.builtin "type.__prepare__",Value.type "type"] },o222 P,tE,pO [(75,4,232),(86,4,239),(89,4,244),(92,4,251),(105,4,256),(119,4,263),(122,4,270),(129,4,277),(136,4,284),(141,4,289)],o225 P,{ cls:=Value.type "frame",slots:=#[some (Value.ref 225),some (Value.ref 3),some (Value.ref 222),none,some (Value.str (Str.ofString "movehouse.houses") 461),none,some (Value.ref 0)] },tE,nE,tS (nat_lit 478) ["self","number","keys","key"],tE,gO "__init__" "House.__init__" (fnIn (clsIn_ bd 20) 0),o232 P,o233 P,tE,nE,tS (nat_lit 488) ["self","key"],tE,gO "has" "House.has" (fnIn (clsIn_ bd 20) 1),o239 P,o240 P,tE,nE,gO "owes" "House.owes" (fnIn (clsIn_ bd 20) 2),o244 P,o245 P,tE,nE,tS (nat_lit 502) ["self","letter","one"],tE,gO "came" "House.came" (fnIn (clsIn_ bd 20) 3),o251 P,o252 P,tE,nE,gO "called" "House.called" (fnIn (clsIn_ bd 20) 4),o256 P,o257 P,tE,nE,tS (nat_lit 517) ["self","key","one"],tE,gO "parcel" "House.parcel" (fnIn (clsIn_ bd 20) 5),o263 P,o264 P,tE,nE,tS (nat_lit 526) ["self","key","one"],tE,gO "move" "House.move" (fnIn (clsIn_ bd 20) 6),o270 P,o271 P,tE,nE,tS (nat_lit 535) ["self","found"],tE,gO "write" "House.write" (fnIn (clsIn_ bd 20) 7),o277 P,o278 P,tE,nE,tS (nat_lit 543) ["self"],tE,gO "sleep" "House.sleep" (fnIn (clsIn_ bd 20) 8),o284 P,o285 P,tE,nE,gO "nudge" "House.nudge" (fnIn (clsIn_ bd 20) 9),o289 P,o290 P,tS (nat_lit 553) ["fresh","known","laid","number","written"],o292 P,o293 P,{ cls:=Value.type "getset_descriptor",data:=Data.fields #[Value.str (Str.ofString "__dict__") 559,Value.ref 293,Value.builtin "function.__dict__",Value.builtin "function.__dict__#set"] },{ cls:=Value.type "getset_descriptor",data:=Data.fields #[Value.str (Str.ofString "__weakref__") 561,Value.ref 293,Value.builtin "ExceptionGroup.__weakref__",Value.none] },{ cls:=Value.type "super",data:=Data.fields #[Value.ref 293,Value.ref 293,Value.ref 293] },{ cls:=Value.type "builtin_function_or_method",data:=Data.fields #[Value.builtin "object.__init_subclass__",Value.ref 293] }]
noncomputable def S7 (w:World) (os:OsState):Shared:=⟨⟨⟨hp7 w.params⟩,{ }⟩,#[],{ },566,os⟩
noncomputable def d3v8 (P:Params):List DictEntry:=((d3v7 P).set 0 (eS P "__name__" (nat_lit 165) "movehouse.world" (nat_lit 566))) ++ [eS P "LETTERS" (nat_lit 569) "abcdefghijklmnopqrstuvwxyz" (nat_lit 568),eV P "MOST" (nat_lit 571) (Value.int 6 570),eV P "LONGEST" (nat_lit 573) (Value.int 8 572),eR P "is_key" (nat_lit 581) (nat_lit 304),eR P "need_world" (nat_lit 590) (nat_lit 311)]
noncomputable def o303 (P:Params):Obj:=cO "is_key" "is_key" (nat_lit 574) (nat_lit 298) (nat_lit 579) 147 1
noncomputable def o304 (P:Params):Obj:=fO "is_key" "is_key" (fnIn bd 25) "movehouse.world" (nat_lit 566) (nat_lit 303)
noncomputable def o310 (P:Params):Obj:=cO "need_world" "need_world" (nat_lit 582) (nat_lit 305) (nat_lit 588) 154 2
noncomputable def o311 (P:Params):Obj:=fO "need_world" "need_world" (fnIn bd 26) "movehouse.world" (nat_lit 566) (nat_lit 310)
noncomputable def hp8 (P:Params):List Obj:=(((hp7 P).set 3 (dE (nat_lit 31) (d3v8 P))).set 12 (pO [(1,0,20),(5,0,27),(33,0,83),(35,0,96),(37,0,108),(39,0,120),(41,0,132),(43,0,144),(45,0,156),(47,0,168),(49,0,180),(51,0,192),(55,0,204),(57,0,211),(66,0,218),(73,0,225),(147,0,303),(154,0,310)])) ++ [tE,nE,tS (nat_lit 577) ["thing","sign"],tE,gO "is_key" "is_key" (fnIn bd 25),o303 P,o304 P,tE,nE,tS (nat_lit 585) ["keys","callers","k"],tE,gO "need_world" "need_world" (fnIn bd 26),o310 P,o311 P]
noncomputable def S8 (w:World) (os:OsState):Shared:=⟨⟨⟨hp8 w.params⟩,{ }⟩,#[],{ },591,os⟩
noncomputable def d3v9 (P:Params):List DictEntry:=(d3v8 P) ++ [eR P "World" (nat_lit 817) (nat_lit 494)]
noncomputable def o314 (P:Params):Obj:=dE (nat_lit 29) [eS P "__module__" (nat_lit 598) "movehouse.world" (nat_lit 566),eS P "__qualname__" (nat_lit 600) "World" (nat_lit 599),eV P "__firstlineno__" (nat_lit 602) (Value.int 162 601),eR P "__init__" (nat_lit 608) (nat_lit 323),eR P "need_caller" (nat_lit 616) (nat_lit 330),eR P "need_house" (nat_lit 624) (nat_lit 337),eR P "need_key" (nat_lit 632) (nat_lit 344),eR P "need_place" (nat_lit 640) (nat_lit 351),eR P "call" (nat_lit 652) (nat_lit 358),eR P "again" (nat_lit 661) (nat_lit 365),eR P "letters" (nat_lit 668) (nat_lit 372),eR P "brought" (nat_lit 676) (nat_lit 379),eR P "hand" (nat_lit 684) (nat_lit 386),eR P "twice" (nat_lit 692) (nat_lit 393),eR P "lose" (nat_lit 700) (nat_lit 400),eR P "home" (nat_lit 709) (nat_lit 407),eR P "move" (nat_lit 718) (nat_lit 414),eR P "has" (nat_lit 727) (nat_lit 421),eR P "write" (nat_lit 736) (nat_lit 428),eR P "sleep" (nat_lit 744) (nat_lit 435),eR P "nudge" (nat_lit 752) (nat_lit 442),eR P "ledger" (nat_lit 759) (nat_lit 449),eR P "asking" (nat_lit 767) (nat_lit 456),eR P "answers" (nat_lit 775) (nat_lit 463),eR P "owes" (nat_lit 783) (nat_lit 470),eR P "is_settled" (nat_lit 790) (nat_lit 477),eR P "one_round" (nat_lit 797) (nat_lit 484),eR P "settle" (nat_lit 804) (nat_lit 491),eR P "__static_attributes__" (nat_lit 810) (nat_lit 492)]
noncomputable def o317 (P:Params):Obj:={ cls:=Value.type "code",data:=Data.fields #[Value.str (Str.ofString "World") 593,Value.str (Str.ofString "World") 594,Value.str (Str.ofString "/claim/cut.py") 595,Value.int 162 0,Value.int 0 0,Value.int 0 0,Value.int 0 0,Value.int 0 0,Value.ref 315,Value.bool false,Value.int 181 0,Value.ref 316,Value.none,Value.none,Value.none,Value.none,Value.int 596 0,Value.int 162 0,Value.str (Str.ofString "/claim/cut.py") 597] }
noncomputable def o322 (P:Params):Obj:=kO "__init__" "World.__init__" (nat_lit 603) (nat_lit 319) (nat_lit 606) 164 3
noncomputable def o323 (P:Params):Obj:=fO "__init__" "World.__init__" (fnIn (clsIn_ bd 27) 0) "movehouse.world" (nat_lit 566) (nat_lit 322)
noncomputable def o329 (P:Params):Obj:=cO "need_caller" "World.need_caller" (nat_lit 609) (nat_lit 324) (nat_lit 614) 172 2
noncomputable def o330 (P:Params):Obj:=fO "need_caller" "World.need_caller" (fnIn (clsIn_ bd 27) 1) "movehouse.world" (nat_lit 566) (nat_lit 329)
noncomputable def o336 (P:Params):Obj:=cO "need_house" "World.need_house" (nat_lit 617) (nat_lit 331) (nat_lit 622) 176 2
noncomputable def o337 (P:Params):Obj:=fO "need_house" "World.need_house" (fnIn (clsIn_ bd 27) 2) "movehouse.world" (nat_lit 566) (nat_lit 336)
noncomputable def o343 (P:Params):Obj:=cO "need_key" "World.need_key" (nat_lit 625) (nat_lit 338) (nat_lit 630) 180 2
noncomputable def o344 (P:Params):Obj:=fO "need_key" "World.need_key" (fnIn (clsIn_ bd 27) 3) "movehouse.world" (nat_lit 566) (nat_lit 343)
noncomputable def o350 (P:Params):Obj:=cO "need_place" "World.need_place" (nat_lit 633) (nat_lit 345) (nat_lit 638) 184 2
noncomputable def o351 (P:Params):Obj:=fO "need_place" "World.need_place" (fnIn (clsIn_ bd 27) 4) "movehouse.world" (nat_lit 566) (nat_lit 350)
noncomputable def o357 (P:Params):Obj:=cO "call" "World.call" (nat_lit 641) (nat_lit 352) (nat_lit 650) 188 5
noncomputable def o358 (P:Params):Obj:=fO "call" "World.call" (fnIn (clsIn_ bd 27) 5) "movehouse.world" (nat_lit 566) (nat_lit 357)
noncomputable def o364 (P:Params):Obj:=cO "again" "World.again" (nat_lit 653) (nat_lit 359) (nat_lit 659) 199 3
noncomputable def o365 (P:Params):Obj:=fO "again" "World.again" (fnIn (clsIn_ bd 27) 6) "movehouse.world" (nat_lit 566) (nat_lit 364)
noncomputable def o371 (P:Params):Obj:=cO "letters" "World.letters" (nat_lit 662) (nat_lit 366) (nat_lit 666) 206 1
noncomputable def o372 (P:Params):Obj:=fO "letters" "World.letters" (fnIn (clsIn_ bd 27) 7) "movehouse.world" (nat_lit 566) (nat_lit 371)
noncomputable def o378 (P:Params):Obj:=cO "brought" "World.brought" (nat_lit 669) (nat_lit 373) (nat_lit 674) 209 2
noncomputable def o379 (P:Params):Obj:=fO "brought" "World.brought" (fnIn (clsIn_ bd 27) 8) "movehouse.world" (nat_lit 566) (nat_lit 378)
noncomputable def o385 (P:Params):Obj:=cO "hand" "World.hand" (nat_lit 677) (nat_lit 380) (nat_lit 682) 215 2
noncomputable def o386 (P:Params):Obj:=fO "hand" "World.hand" (fnIn (clsIn_ bd 27) 9) "movehouse.world" (nat_lit 566) (nat_lit 385)
noncomputable def o392 (P:Params):Obj:=cO "twice" "World.twice" (nat_lit 685) (nat_lit 387) (nat_lit 690) 219 2
noncomputable def o393 (P:Params):Obj:=fO "twice" "World.twice" (fnIn (clsIn_ bd 27) 10) "movehouse.world" (nat_lit 566) (nat_lit 392)
noncomputable def o399 (P:Params):Obj:=cO "lose" "World.lose" (nat_lit 693) (nat_lit 394) (nat_lit 698) 223 2
noncomputable def o400 (P:Params):Obj:=fO "lose" "World.lose" (fnIn (clsIn_ bd 27) 11) "movehouse.world" (nat_lit 566) (nat_lit 399)
noncomputable def o406 (P:Params):Obj:=cO "home" "World.home" (nat_lit 701) (nat_lit 401) (nat_lit 707) 227 2
noncomputable def o407 (P:Params):Obj:=fO "home" "World.home" (fnIn (clsIn_ bd 27) 12) "movehouse.world" (nat_lit 566) (nat_lit 406)
noncomputable def o413 (P:Params):Obj:=cO "move" "World.move" (nat_lit 710) (nat_lit 408) (nat_lit 716) 234 2
noncomputable def o414 (P:Params):Obj:=fO "move" "World.move" (fnIn (clsIn_ bd 27) 13) "movehouse.world" (nat_lit 566) (nat_lit 413)
noncomputable def o420 (P:Params):Obj:=cO "has" "World.has" (nat_lit 719) (nat_lit 415) (nat_lit 725) 240 3
noncomputable def o421 (P:Params):Obj:=fO "has" "World.has" (fnIn (clsIn_ bd 27) 14) "movehouse.world" (nat_lit 566) (nat_lit 420)
noncomputable def o427 (P:Params):Obj:=cO "write" "World.write" (nat_lit 728) (nat_lit 422) (nat_lit 734) 245 2
noncomputable def o428 (P:Params):Obj:=fO "write" "World.write" (fnIn (clsIn_ bd 27) 15) "movehouse.world" (nat_lit 566) (nat_lit 427)
noncomputable def o434 (P:Params):Obj:=cO "sleep" "World.sleep" (nat_lit 737) (nat_lit 429) (nat_lit 742) 251 2
noncomputable def o435 (P:Params):Obj:=fO "sleep" "World.sleep" (fnIn (clsIn_ bd 27) 16) "movehouse.world" (nat_lit 566) (nat_lit 434)
noncomputable def o441 (P:Params):Obj:=cO "nudge" "World.nudge" (nat_lit 745) (nat_lit 436) (nat_lit 750) 255 2
noncomputable def o442 (P:Params):Obj:=fO "nudge" "World.nudge" (fnIn (clsIn_ bd 27) 17) "movehouse.world" (nat_lit 566) (nat_lit 441)
noncomputable def o448 (P:Params):Obj:=cO "ledger" "World.ledger" (nat_lit 753) (nat_lit 443) (nat_lit 757) 259 1
noncomputable def o449 (P:Params):Obj:=fO "ledger" "World.ledger" (fnIn (clsIn_ bd 27) 18) "movehouse.world" (nat_lit 566) (nat_lit 448)
noncomputable def o455 (P:Params):Obj:=cO "asking" "World.asking" (nat_lit 760) (nat_lit 450) (nat_lit 765) 262 2
noncomputable def o456 (P:Params):Obj:=fO "asking" "World.asking" (fnIn (clsIn_ bd 27) 19) "movehouse.world" (nat_lit 566) (nat_lit 455)
noncomputable def o462 (P:Params):Obj:=cO "answers" "World.answers" (nat_lit 768) (nat_lit 457) (nat_lit 773) 266 2
noncomputable def o463 (P:Params):Obj:=fO "answers" "World.answers" (fnIn (clsIn_ bd 27) 20) "movehouse.world" (nat_lit 566) (nat_lit 462)
noncomputable def o469 (P:Params):Obj:=cO "owes" "World.owes" (nat_lit 776) (nat_lit 464) (nat_lit 781) 269 2
noncomputable def o470 (P:Params):Obj:=fO "owes" "World.owes" (fnIn (clsIn_ bd 27) 21) "movehouse.world" (nat_lit 566) (nat_lit 469)
noncomputable def o476 (P:Params):Obj:=cO "is_settled" "World.is_settled" (nat_lit 784) (nat_lit 471) (nat_lit 788) 273 1
noncomputable def o477 (P:Params):Obj:=fO "is_settled" "World.is_settled" (fnIn (clsIn_ bd 27) 22) "movehouse.world" (nat_lit 566) (nat_lit 476)
noncomputable def o483 (P:Params):Obj:=cO "one_round" "World.one_round" (nat_lit 791) (nat_lit 478) (nat_lit 795) 276 1
noncomputable def o484 (P:Params):Obj:=fO "one_round" "World.one_round" (fnIn (clsIn_ bd 27) 23) "movehouse.world" (nat_lit 566) (nat_lit 483)
noncomputable def o490 (P:Params):Obj:=cO "settle" "World.settle" (nat_lit 798) (nat_lit 485) (nat_lit 802) 279 1
noncomputable def o491 (P:Params):Obj:=fO "settle" "World.settle" (fnIn (clsIn_ bd 27) 24) "movehouse.world" (nat_lit 566) (nat_lit 490)
noncomputable def o493 (P:Params):Obj:=dE (nat_lit 4) [eS P "__module__" (nat_lit 598) "movehouse.world" (nat_lit 566),eV P "__firstlineno__" (nat_lit 602) (Value.int 162 601),eR P "__init__" (nat_lit 608) (nat_lit 323),eR P "need_caller" (nat_lit 616) (nat_lit 330),eR P "need_house" (nat_lit 624) (nat_lit 337),eR P "need_key" (nat_lit 632) (nat_lit 344),eR P "need_place" (nat_lit 640) (nat_lit 351),eR P "call" (nat_lit 652) (nat_lit 358),eR P "again" (nat_lit 661) (nat_lit 365),eR P "letters" (nat_lit 668) (nat_lit 372),eR P "brought" (nat_lit 676) (nat_lit 379),eR P "hand" (nat_lit 684) (nat_lit 386),eR P "twice" (nat_lit 692) (nat_lit 393),eR P "lose" (nat_lit 700) (nat_lit 400),eR P "home" (nat_lit 709) (nat_lit 407),eR P "move" (nat_lit 718) (nat_lit 414),eR P "has" (nat_lit 727) (nat_lit 421),eR P "write" (nat_lit 736) (nat_lit 428),eR P "sleep" (nat_lit 744) (nat_lit 435),eR P "nudge" (nat_lit 752) (nat_lit 442),eR P "ledger" (nat_lit 759) (nat_lit 449),eR P "asking" (nat_lit 767) (nat_lit 456),eR P "answers" (nat_lit 775) (nat_lit 463),eR P "owes" (nat_lit 783) (nat_lit 470),eR P "is_settled" (nat_lit 790) (nat_lit 477),eR P "one_round" (nat_lit 797) (nat_lit 484),eR P "settle" (nat_lit 804) (nat_lit 491),eR P "__static_attributes__" (nat_lit 810) (nat_lit 492),eR P "__dict__" (nat_lit 812) (nat_lit 495),eR P "__weakref__" (nat_lit 814) (nat_lit 496),eV P "__doc__" (nat_lit 815) (Value.none)]
noncomputable def o494 (P:Params):Obj:={ cls:=Value.type "type",data:=Data.cls { name:=Str.ofString "World",bases:=[Value.type "object"],mro:=[Value.ref 494,Value.type "object"],ns:=493,qualname:=Str.ofString "World" },slots:=#[none,none,some (Value.str (Str.ofString "World") 591),some (Value.str (Str.ofString "World") 599),some (Value.builtin "object.__new__"),some (Value.bool true)] }
noncomputable def hp9 (P:Params):List Obj:=(((hp8 P).set 3 (dE (nat_lit 32) (d3v9 P))).set 12 (pO [(1,0,20),(5,0,27),(33,0,83),(35,0,96),(37,0,108),(39,0,120),(41,0,132),(43,0,144),(45,0,156),(47,0,168),(49,0,180),(51,0,192),(55,0,204),(57,0,211),(66,0,218),(73,0,225),(147,0,303),(154,0,310),(162,0,317)])) ++ [tE,{ cls:=Value.type "builtin_function_or_method",data:=Data.fields #[Value.builtin "type.__prepare__",Value.type "type"] },o314 P,tE,pO [(164,4,322),(172,4,329),(176,4,336),(180,4,343),(184,4,350),(188,4,357),(199,4,364),(206,4,371),(209,4,378),(215,4,385),(219,4,392),(223,4,399),(227,4,406),(234,4,413),(240,4,420),(245,4,427),(251,4,434),(255,4,441),(259,4,448),(262,4,455),(266,4,462),(269,4,469),(273,4,476),(276,4,483),(279,4,490)],o317 P,{ cls:=Value.type "frame",slots:=#[some (Value.ref 317),some (Value.ref 3),some (Value.ref 314),none,some (Value.str (Str.ofString "movehouse.world") 566),none,some (Value.ref 0)] },tE,nE,gO "__init__" "World.__init__" (fnIn (clsIn_ bd 27) 0),o322 P,o323 P,tE,nE,tS (nat_lit 612) ["self","caller"],tE,gO "need_caller" "World.need_caller" (fnIn (clsIn_ bd 27) 1),o329 P,o330 P,tE,nE,tS (nat_lit 620) ["self","house"],tE,gO "need_house" "World.need_house" (fnIn (clsIn_ bd 27) 2),o336 P,o337 P,tE,nE,tS (nat_lit 628) ["self","key"],tE,gO "need_key" "World.need_key" (fnIn (clsIn_ bd 27) 3),o343 P,o344 P,tE,nE,tS (nat_lit 636) ["self","place"],tE,gO "need_place" "World.need_place" (fnIn (clsIn_ bd 27) 4),o350 P,o351 P,tE,nE,tS (nat_lit 644) ["self","caller","house","key","wish","number"],tE,gO "call" "World.call" (fnIn (clsIn_ bd 27) 5),o357 P,o358 P,tE,nE,tS (nat_lit 656) ["self","caller","house"],tE,gO "again" "World.again" (fnIn (clsIn_ bd 27) 6),o364 P,o365 P,tE,nE,tS (nat_lit 665) ["self"],tE,gO "letters" "World.letters" (fnIn (clsIn_ bd 27) 7),o371 P,o372 P,tE,nE,tS (nat_lit 672) ["self","letter"],tE,gO "brought" "World.brought" (fnIn (clsIn_ bd 27) 8),o378 P,o379 P,tE,nE,tS (nat_lit 680) ["self","place"],tE,gO "hand" "World.hand" (fnIn (clsIn_ bd 27) 9),o385 P,o386 P,tE,nE,tS (nat_lit 688) ["self","place"],tE,gO "twice" "World.twice" (fnIn (clsIn_ bd 27) 10),o392 P,o393 P,tE,nE,tS (nat_lit 696) ["self","place"],tE,gO "lose" "World.lose" (fnIn (clsIn_ bd 27) 11),o399 P,o400 P,tE,nE,tS (nat_lit 704) ["self","key","house"],tE,gO "home" "World.home" (fnIn (clsIn_ bd 27) 12),o406 P,o407 P,tE,nE,tS (nat_lit 713) ["self","key","home"],tE,gO "move" "World.move" (fnIn (clsIn_ bd 27) 13),o413 P,o414 P,tE,nE,tS (nat_lit 722) ["self","house","key"],tE,gO "has" "World.has" (fnIn (clsIn_ bd 27) 14),o420 P,o421 P,tE,nE,tS (nat_lit 731) ["self","house","found"],tE,gO "write" "World.write" (fnIn (clsIn_ bd 27) 15),o427 P,o428 P,tE,nE,tS (nat_lit 740) ["self","house"],tE,gO "sleep" "World.sleep" (fnIn (clsIn_ bd 27) 16),o434 P,o435 P,tE,nE,tS (nat_lit 748) ["self","house"],tE,gO "nudge" "World.nudge" (fnIn (clsIn_ bd 27) 17),o441 P,o442 P,tE,nE,tS (nat_lit 756) ["self"],tE,gO "ledger" "World.ledger" (fnIn (clsIn_ bd 27) 18),o448 P,o449 P,tE,nE,tS (nat_lit 763) ["self","caller"],tE,gO "asking" "World.asking" (fnIn (clsIn_ bd 27) 19),o455 P,o456 P,tE,nE,tS (nat_lit 771) ["self","caller"],tE,gO "answers" "World.answers" (fnIn (clsIn_ bd 27) 20),o462 P,o463 P,tE,nE,tS (nat_lit 779) ["self","house"],tE,gO "owes" "World.owes" (fnIn (clsIn_ bd 27) 21),o469 P,o470 P,tE,nE,tS (nat_lit 787) ["self"],tE,gO "is_settled" "World.is_settled" (fnIn (clsIn_ bd 27) 22),o476 P,o477 P,tE,nE,tS (nat_lit 794) ["self"],tE,gO "one_round" "World.one_round" (fnIn (clsIn_ bd 27) 23),o483 P,o484 P,tE,nE,tS (nat_lit 801) ["self"],tE,gO "settle" "World.settle" (fnIn (clsIn_ bd 27) 24),o490 P,o491 P,tS (nat_lit 805) ["all_keys","callers","houses","post","rows"],o493 P,o494 P,{ cls:=Value.type "getset_descriptor",data:=Data.fields #[Value.str (Str.ofString "__dict__") 811,Value.ref 494,Value.builtin "function.__dict__",Value.builtin "function.__dict__#set"] },{ cls:=Value.type "getset_descriptor",data:=Data.fields #[Value.str (Str.ofString "__weakref__") 813,Value.ref 494,Value.builtin "ExceptionGroup.__weakref__",Value.none] },{ cls:=Value.type "super",data:=Data.fields #[Value.ref 494,Value.ref 494,Value.ref 494] },{ cls:=Value.type "builtin_function_or_method",data:=Data.fields #[Value.builtin "object.__init_subclass__",Value.ref 494] }]
noncomputable def S9 (w:World) (os:OsState):Shared:=⟨⟨⟨hp9 w.params⟩,{ }⟩,#[],{ },818,os⟩
noncomputable def d3v10 (P:Params):List DictEntry:=((d3v9 P).set 0 (eS P "__name__" (nat_lit 165) "law_uf030007_13" (nat_lit 818))) ++ [eR P "_law_cell_at" (nat_lit 827) (nat_lit 505),eR P "_law_alike" (nat_lit 833) (nat_lit 510),eR P "_law_wish" (nat_lit 841) (nat_lit 517),eR P "_law_keys" (nat_lit 847) (nat_lit 522),eR P "_law_done" (nat_lit 855) (nat_lit 529),eR P "_law_deed" (nat_lit 871) (nat_lit 536),eR P "_law_ledger_right" (nat_lit 885) (nat_lit 543),eR P "law" (nat_lit 898) (nat_lit 550)]
noncomputable def o3 (P:Params):Obj:=dE (nat_lit 40) (d3v10 P)
noncomputable def o504 (P:Params):Obj:=cO "_law_cell_at" "_law_cell_at" (nat_lit 820) (nat_lit 499) (nat_lit 825) 282 2
noncomputable def o505 (P:Params):Obj:=fO "_law_cell_at" "_law_cell_at" (fnIn bd 29) "law_uf030007_13" (nat_lit 818) (nat_lit 504)
noncomputable def o509 (P:Params):Obj:=kO "_law_alike" "_law_alike" (nat_lit 828) (nat_lit 506) (nat_lit 831) 286 2
noncomputable def o510 (P:Params):Obj:=fO "_law_alike" "_law_alike" (fnIn bd 30) "law_uf030007_13" (nat_lit 818) (nat_lit 509)
noncomputable def o516 (P:Params):Obj:=cO "_law_wish" "_law_wish" (nat_lit 834) (nat_lit 511) (nat_lit 839) 296 1
noncomputable def o517 (P:Params):Obj:=fO "_law_wish" "_law_wish" (fnIn bd 31) "law_uf030007_13" (nat_lit 818) (nat_lit 516)
noncomputable def o521 (P:Params):Obj:=kO "_law_keys" "_law_keys" (nat_lit 842) (nat_lit 518) (nat_lit 845) 301 1
noncomputable def o522 (P:Params):Obj:=fO "_law_keys" "_law_keys" (fnIn bd 32) "law_uf030007_13" (nat_lit 818) (nat_lit 521)
noncomputable def o528 (P:Params):Obj:=cO "_law_done" "_law_done" (nat_lit 848) (nat_lit 523) (nat_lit 853) 311 2
noncomputable def o529 (P:Params):Obj:=fO "_law_done" "_law_done" (fnIn bd 33) "law_uf030007_13" (nat_lit 818) (nat_lit 528)
noncomputable def o535 (P:Params):Obj:=cO "_law_deed" "_law_deed" (nat_lit 856) (nat_lit 530) (nat_lit 869) 317 4
noncomputable def o536 (P:Params):Obj:=fO "_law_deed" "_law_deed" (fnIn bd 34) "law_uf030007_13" (nat_lit 818) (nat_lit 535)
noncomputable def o542 (P:Params):Obj:=cO "_law_ledger_right" "_law_ledger_right" (nat_lit 872) (nat_lit 537) (nat_lit 883) 344 2
noncomputable def o543 (P:Params):Obj:=fO "_law_ledger_right" "_law_ledger_right" (fnIn bd 35) "law_uf030007_13" (nat_lit 818) (nat_lit 542)
noncomputable def o549 (P:Params):Obj:=cO "law" "law" (nat_lit 886) (nat_lit 544) (nat_lit 896) 360 1
noncomputable def o550 (P:Params):Obj:=fO "law" "law" (fnIn bd 36) "law_uf030007_13" (nat_lit 818) (nat_lit 549)
noncomputable def hp10 (P:Params):List Obj:=(((hp9 P).set 3 (o3 P)).set 12 (pO [(1,0,20),(5,0,27),(33,0,83),(35,0,96),(37,0,108),(39,0,120),(41,0,132),(43,0,144),(45,0,156),(47,0,168),(49,0,180),(51,0,192),(55,0,204),(57,0,211),(66,0,218),(73,0,225),(147,0,303),(154,0,310),(162,0,317),(282,0,504),(286,0,509),(296,0,516),(301,0,521),(311,0,528),(317,0,535),(344,0,542),(360,0,549)])) ++ [tE,nE,tS (nat_lit 823) ["_law_script","_law_k"],tE,gO "_law_cell_at" "_law_cell_at" (fnIn bd 29),o504 P,o505 P,tE,nE,gO "_law_alike" "_law_alike" (fnIn bd 30),o509 P,o510 P,tE,nE,tS (nat_lit 837) ["_law_cell","_law_number"],tE,gO "_law_wish" "_law_wish" (fnIn bd 31),o516 P,o517 P,tE,nE,gO "_law_keys" "_law_keys" (fnIn bd 32),o521 P,o522 P,tE,nE,tS (nat_lit 851) ["_law_amount","_law_wish_here"],tE,gO "_law_done" "_law_done" (fnIn bd 33),o528 P,o529 P,tE,nE,tS (nat_lit 859) ["_law_world","_law_keys_here","_law_callers","_law_cell","_law_more","_law_house","_law_many","_law_caller","_law_key","_law_wish_here"],tE,gO "_law_deed" "_law_deed" (fnIn bd 34),o535 P,o536 P,tE,nE,tS (nat_lit 875) ["_law_world","_law_begun","_law_found","_law_amounts","_law_seen","_law_row","_law_amount","_law_told"],tE,gO "_law_ledger_right" "_law_ledger_right" (fnIn bd 35),o542 P,o543 P,tE,nE,tS (nat_lit 889) ["_law_script","_law_keys_here","_law_callers","_law_world","_law_begun","_law_cell","_law_ahead"],tE,gO "law" "law" (fnIn bd 36),o549 P,o550 P]
noncomputable def S10 (w:World) (os:OsState):Shared:=⟨⟨⟨hp10 w.params⟩,{ }⟩,#[],{ },899,os⟩
noncomputable def hpf (P:Params):List Obj:=(hp10 P)
noncomputable def Sf (w:World) (os:OsState):Shared:=⟨⟨⟨hpf w.params⟩,{ }⟩,#[],{ },899,os⟩
noncomputable def K (P:Params):Frag :=
 [(2,boot_o_2 P),(3,o3 P),(13,o13 P),(20,o20 P),(21,o21 P),(24,o24 P),(27,o27 P),(34,o34 P),(35,o35 P),(41,o41 P),(42,o42 P),(48,o48 P),(49,o49 P),(55,o55 P),(56,o56 P),(62,o62 P),(63,o63 P),(69,o69 P),(70,o70 P),(72,o72 P),(73,o73 P),(80,o80 P),(83,o83 P),(86,o86 P),(87,o87 P),(93,o93 P),(96,o96 P),(99,o99 P),(100,o100 P),(105,o105 P),(108,o108 P),(111,o111 P),(112,o112 P),(117,o117 P),(120,o120 P),(123,o123 P),(124,o124 P),(129,o129 P),(132,o132 P),(135,o135 P),(136,o136 P),(141,o141 P),(144,o144 P),(147,o147 P),(148,o148 P),(153,o153 P),(156,o156 P),(159,o159 P),(160,o160 P),(165,o165 P),(168,o168 P),(171,o171 P),(172,o172 P),(177,o177 P),(180,o180 P),(183,o183 P),(184,o184 P),(189,o189 P),(192,o192 P),(195,o195 P),(196,o196 P),(204,o204 P),(205,o205 P),(211,o211 P),(212,o212 P),(218,o218 P),(219,o219 P),(222,o222 P),(225,o225 P),(232,o232 P),(233,o233 P),(239,o239 P),(240,o240 P),(244,o244 P),(245,o245 P),(251,o251 P),(252,o252 P),(256,o256 P),(257,o257 P),(263,o263 P),(264,o264 P),(270,o270 P),(271,o271 P),(277,o277 P),(278,o278 P),(284,o284 P),(285,o285 P),(289,o289 P),(290,o290 P),(292,o292 P),(293,o293 P),(303,o303 P),(304,o304 P),(310,o310 P),(311,o311 P),(314,o314 P),(317,o317 P),(322,o322 P),(323,o323 P),(329,o329 P),(330,o330 P),(336,o336 P),(337,o337 P),(343,o343 P),(344,o344 P),(350,o350 P),(351,o351 P),(357,o357 P),(358,o358 P),(364,o364 P),(365,o365 P),(371,o371 P),(372,o372 P),(378,o378 P),(379,o379 P),(385,o385 P),(386,o386 P),(392,o392 P),(393,o393 P),(399,o399 P),(400,o400 P),(406,o406 P),(407,o407 P),(413,o413 P),(414,o414 P),(420,o420 P),(421,o421 P),(427,o427 P),(428,o428 P),(434,o434 P),(435,o435 P),(441,o441 P),(442,o442 P),(448,o448 P),(449,o449 P),(455,o455 P),(456,o456 P),(462,o462 P),(463,o463 P),(469,o469 P),(470,o470 P),(476,o476 P),(477,o477 P),(483,o483 P),(484,o484 P),(490,o490 P),(491,o491 P),(493,o493 P),(494,o494 P),(504,o504 P),(505,o505 P),(509,o509 P),(510,o510 P),(516,o516 P),(517,o517 P),(521,o521 P),(522,o522 P),(528,o528 P),(529,o529 P),(535,o535 P),(536,o536 P),(542,o542 P),(543,o543 P),(549,o549 P),(550,o550 P)]
noncomputable def asL:List Addr:=[2,3,13,20,21,24,27,34,35,41,42,48,49,55,56,62,63,69,70,72,73,80,83,86,87,93,96,99,100,105,108,111,112,117,120,123,124,129,132,135,136,141,144,147,148,153,156,159,160,165,168,171,172,177,180,183,184,189,192,195,196,204,205,211,212,218,219,222,225,232,233,239,240,244,245,251,252,256,257,263,264,270,271,277,278,284,285,289,290,292,293,303,304,310,311,314,317,322,323,329,330,336,337,343,344,350,351,357,358,364,365,371,372,378,379,385,386,392,393,399,400,406,407,413,414,420,421,427,428,434,435,441,442,448,449,455,456,462,463,469,470,476,477,483,484,490,491,493,494,504,505,509,510,516,517,521,522,528,529,535,536,542,543,549,550]
noncomputable def H:Hook:=kHook K asL (fun _=>by kernel_rfl)
theorem t_pre (w:World) (os:OsState):topGo treeTable p w 11 (some (Value.ref 6)) 12 ⟨boot_heap w.params,#[],boot_drawn,boot_toks,os⟩ (topStub p) = some (Sa w os,⟨denote treeTable cd,cd,{ line:=0,col:=0,endLine:=0,endCol:=0 },[topFrame q]⟩):=by kernel_rfl
theorem t_blk (w:World) (os:OsState):segRun treeTable p w 11 (some (Value.ref 6)) 1 1 (Sa w os) (blockOf r0 env cd { line:=0,col:=0,endLine:=0,endCol:=0 } [topFrame q]) = some (.next,Sb w os,cd,{ line:=0,col:=0,endLine:=0,endCol:=0 }):=by kernel_rfl
theorem t0 (w:World) (os:OsState):segRun treeTable p w 11 (some (Value.ref 6)) 1 434 (Sb w os) (piecesOf l0 env cd { line:=0,col:=0,endLine:=0,endCol:=0 } [topFrame q]) = some (.next,S0 w os,cd,{ line:=32,col:=0,endLine:=32,endCol:=8 }):=by kernel_rfl
theorem t1 (w:World) (os:OsState):segRun treeTable p w 11 (some (Value.ref 6)) 1 400 (S0 w os) (piecesOf l1 env cd { line:=32,col:=0,endLine:=32,endCol:=8 } [topFrame q]) = some (.next,S1 w os,cd,{ line:=35,col:=0,endLine:=36,endCol:=8 }):=by kernel_rfl
theorem t2 (w:World) (os:OsState):segRun treeTable p w 11 (some (Value.ref 6)) 1 427 (S1 w os) (piecesOf l2 env cd { line:=35,col:=0,endLine:=36,endCol:=8 } [topFrame q]) = some (.next,S2 w os,cd,{ line:=39,col:=0,endLine:=40,endCol:=8 }):=by kernel_rfl
theorem t3 (w:World) (os:OsState):segRun treeTable p w 11 (some (Value.ref 6)) 1 427 (S2 w os) (piecesOf l3 env cd { line:=39,col:=0,endLine:=40,endCol:=8 } [topFrame q]) = some (.next,S3 w os,cd,{ line:=43,col:=0,endLine:=44,endCol:=8 }):=by kernel_rfl
theorem t4 (w:World) (os:OsState):segRun treeTable p w 11 (some (Value.ref 6)) 1 427 (S3 w os) (piecesOf l4 env cd { line:=43,col:=0,endLine:=44,endCol:=8 } [topFrame q]) = some (.next,S4 w os,cd,{ line:=47,col:=0,endLine:=48,endCol:=8 }):=by kernel_rfl
theorem t5 (w:World) (os:OsState):segRun treeTable p w 11 (some (Value.ref 6)) 1 451 (S4 w os) (piecesOf l5 env cd { line:=47,col:=0,endLine:=48,endCol:=8 } [topFrame q]) = some (.next,S5 w os,cd,{ line:=54,col:=0,endLine:=54,endCol:=8 }):=by kernel_rfl
theorem t6 (w:World) (os:OsState):segRun treeTable p w 11 (some (Value.ref 6)) 1 98 (S5 w os) (piecesOf l6 env cd { line:=54,col:=0,endLine:=54,endCol:=8 } [topFrame q]) = some (.next,S6 w os,cd,{ line:=72,col:=0,endLine:=72,endCol:=8 }):=by kernel_rfl
theorem t7 (w:World) (os:OsState):segRun treeTable p w 11 (some (Value.ref 6)) 1 507 (S6 w os) (piecesOf l7 env cd { line:=72,col:=0,endLine:=72,endCol:=8 } [topFrame q]) = some (.next,S7 w os,cd,{ line:=73,col:=0,endLine:=142,endCol:=110 }):=by kernel_rfl
theorem t8 (w:World) (os:OsState):segRun treeTable p w 11 (some (Value.ref 6)) 1 98 (S7 w os) (piecesOf l8 env cd { line:=73,col:=0,endLine:=142,endCol:=110 } [topFrame q]) = some (.next,S8 w os,cd,{ line:=154,col:=0,endLine:=161,endCol:=51 }):=by kernel_rfl
theorem t9 (w:World) (os:OsState):segRun treeTable p w 11 (some (Value.ref 6)) 1 995 (S8 w os) (piecesOf l9 env cd { line:=154,col:=0,endLine:=161,endCol:=51 } [topFrame q]) = some (.next,S9 w os,cd,{ line:=162,col:=0,endLine:=280,endCol:=16 }):=by kernel_rfl
theorem t10 (w:World) (os:OsState):segRun treeTable p w 11 (some (Value.ref 6)) 1 261 (S9 w os) (piecesOf l10 env cd { line:=162,col:=0,endLine:=280,endCol:=16 } [topFrame q]) = some (.next,S10 w os,cd,{ line:=360,col:=0,endLine:=372,endCol:=108 }):=by kernel_rfl
theorem t_fin (w:World) (os:OsState):topRun treeTable p w 11 (some (Value.ref 6)) 2 (S10 w os) ⟨doneF .next,cd,{ line:=360,col:=0,endLine:=372,endCol:=108 },[topFrame q]⟩ = some (Sf w os):=by kernel_rfl
theorem t_run (w:World) (os:OsState):topRun treeTable p w 11 (some (Value.ref 6)) (12 + (1 + (434 + (400 + (427 + (427 + (427 + (451 + (98 + (507 + (98 + (995 + (261 + (2)))))))))))))) ⟨boot_heap w.params,#[],boot_drawn,boot_toks,os⟩ (topStub p) = some (Sf w os) :=
 go_top (t_pre w os) (piece_block (t_blk w os) (piece_app (l:=l0) (rest:=r1) (t0 w os) (piece_app (l:=l1) (rest:=r2) (t1 w os) (piece_app (l:=l2) (rest:=r3) (t2 w os) (piece_app (l:=l3) (rest:=r4) (t3 w os) (piece_app (l:=l4) (rest:=r5) (t4 w os) (piece_app (l:=l5) (rest:=r6) (t5 w os) (piece_app (l:=l6) (rest:=r7) (t6 w os) (piece_app (l:=l7) (rest:=r8) (t7 w os) (piece_app (l:=l8) (rest:=r9) (t8 w os) (piece_app (l:=l9) (rest:=r10) (t9 w os) (piece_app (l:=l10) (rest:=r11) (t10 w os) (piece_nil (t_fin w os))))))))))))))
theorem lft:LeftO p view [Str.ofString "GREATEST"] (fun s=>xlAt view [(Str.ofString "GREATEST",.int 1000000000000000000000000000000)] s && recOk (RowW.records PySem.Challenge.rw_uf030007_13.row.toRowW) s) (Hook.obs H) (Hook.val H) 9754 :=
 LeftO.of_pieces (H₀:=boot_heap) (H₁:=fun P=>⟨⟨hpf P⟩,{ }⟩) (boot_open (by kernel_rfl) (by kernel_rfl) (fun _=>by kernel_rfl)) (fun w=>by kernel_rfl) t_run (by kernel_rfl) (fun w=>by kernel_rfl)
end Mine.L13
end

section
open PySem PySem.W PyProof.Rows
set_option maxRecDepth 100000
set_option maxHeartbeats 8000000
namespace Mine.L13
noncomputable def nm : Names where
  fn f := (fnn.lookup f).getD Str.empty
  cls c := (["World", "House", "Caller"] : List PySem.Str)[c]?.getD Str.empty
  meth m := (["has", "owes", "came", "called", "parcel", "move", "write", "sleep", "nudge", "begin", "letter", "asking", "answers", "need_caller", "need_house", "need_key", "need_place", "call", "again", "letters", "brought", "hand", "twice", "lose", "home", "ledger", "is_settled", "one_round", "settle"] : List PySem.Str)[m]?.getD Str.empty
  attr := attrName
  exc c := (["MoveError", "BadWorld", "NoCaller", "NoHouse", "NoKey", "BadWish", "Busy", "Idle", "NotHere", "NoLetter"] : List PySem.Str)[c]?.getD Str.empty
  gi := [("GREATEST", 1000000000000000000000000000000), ("MOST", 6), ("LONGEST", 8)]
  gs := [("LETTERS", [97, 98, 99, 100, 101, 102, 103, 104, 105, 106, 107, 108, 109, 110, 111, 112, 113, 114, 115, 116, 117, 118, 119, 120, 121, 122])]
  xs := xsl
  xf f := xfl.contains f
  xm k := xml.contains k
  qf f := qfl.contains f
noncomputable def tab : Tab := ⟨[(0, 205), (1, 212), (2, 219), (4, 304), (5, 311), (100, 505), (101, 510), (102, 517), (103, 522), (104, 529), (118, 550), (121, 536), (122, 543), (11, 42), (12, 49), (13, 56), (14, 63), (21, 240), (22, 245), (23, 252), (24, 257), (25, 264), (26, 271), (27, 278), (28, 285), (29, 290), (41, 330), (42, 337), (43, 344), (44, 351), (45, 358), (46, 365), (47, 372), (48, 379), (49, 386), (50, 393), (51, 400), (52, 407), (53, 414), (54, 421), (55, 428), (56, 435), (57, 442), (58, 449), (59, 456), (61, 470), (10, 35), (20, 233), (40, 323)], [(0, 494), (1, 293), (2, 73)], fnl, mel, inl, xbl⟩
end Mine.L13
open Mine in
theorem PySem.Challenge.cw_uf030007_13_holds : PySem.Challenge.rw_uf030007_13.Holds := by
  refine holds_law (by kernel_rfl) fun said => ?_
  refine holds_open (q := L13.view) (loose := [Str.ofString "GREATEST"]) (Xt := fun s => xlAt L13.view [(Str.ofString "GREATEST", .int 1000000000000000000000000000000)] s && recOk (RowW.records PySem.Challenge.rw_uf030007_13.row.toRowW) s) (XP := XL L13.view [(Str.ofString "GREATEST", .int 1000000000000000000000000000000)]) (Yf := Hook.obs L13.H) (Ya := Hook.val L13.H) (YP := Hook.says L13.H) (N := 9754) L13.lft (Hook.of L13.H) (Hook.keeps L13.H) (fun s e => xl_of s (Bool.and_eq_true_iff.mp e).1) XL.keeps (by rfl) (by rfl) (by rfl) (fun s e => recFacts_of (Bool.and_eq_true_iff.mp e).2) (by rfl) (by first | assumption | decide +kernel) (by decide +kernel) ⟨rfl, rfl, rfl, rfl, rfl, by decide +kernel⟩ ?hw ?hc
  case hw => w_witness2
  intro w s₀ s₁ mg mb G Y fa o pm cd doc dV kV ho hd hcd hD hmg hg args vals as hpre hlay hrd hwl hlo
  have KX := kIn_of Y
  clear ho hd hcd hD
  refine Ground.open G ?_
  intro T B D TE TW
  wrow_args hpre hlay hrd hwl hlo
  refine enter_call ?_
  rename_i ns hs h0 hlay hx1 hx2 a1 a2 la vs a3 hL ra w1 r0 hI rr hc1 hc2
  have hlen : ns.length ≤ 63 := by omega
  have hbits : ∀ i ∈ ns, intBits i ≤ 1048576 := bits_lay hlay
  have S := stat_of (T := L13.tab) (N := L13.nm) (prog := PySem.Challenge.rw_uf030007_13.row.prog) (w := w) rfl KX T.g T.b T.builtins T.nolimit (by kernel_rfl) (by kernel_rfl) (by kernel_rfl) (by kernel_rfl) (by kernel_rfl) (fun y c h => by cases h) (by kernel_rfl) (by kernel_rfl) (by kernel_rfl)
  have hfa : fa = 550 := by
    have e := globIn_ok KX T.g (by kernel_rfl) (Str.ofString "law")
    have e3 := hmg.symm.trans (e.trans (b := globIn _ _) (c := some (Value.ref 550)) (by kernel_rfl))
    cases e3; rfl
  subst hfa
  obtain ⟨v, st', hrun, rfl⟩ := okr_elim (L13.law_ok 10 ns hlen)
  cases w1 with
  | list hz _ =>
    rename_i vs' _
    have hvs : vs' = vs := by
      obtain ⟨o, h1, h2, n, h3⟩ := hL
      rw [hz] at h1
      cases h1
      simp at h3; exact h3.1
    subst hvs
    refine law_close S (by kernel_rfl) (by intro G C n H; kernel_rfl) (by intro G C n H; kernel_rfl) (n := 17) (law := 118) ⟨fun _ => rfl, by decide, by decide⟩ rfl hz hlen hI hrun fun s' hk hos hgens => GoodW.toG ?_
    refine ⟨.inl ⟨.bool true, .bool true, [], rfl, raisesW_false (by wrow_none_raised), ?_, ?_, fun _ => ⟨List.nodup_nil, fun a h => by cases h⟩⟩, hk, hos, hgens.trans hg⟩
    · constructor
    · wrow_post
end
