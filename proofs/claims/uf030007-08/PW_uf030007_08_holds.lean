import PyProof.Rows.All
import Wide.All
import OpenK.AllK
import Wide.FinOn
import Lean
import PySem.Challenge.RW_uf030007_08

set_option Elab.async false
set_option autoImplicit false
set_option linter.all false
set_option genInjectivity false
set_option genSizeOf false
set_option backward.match.sparseCases false
set_option backward.eqns.nonrecursive false
set_option bootstrap.genMatcherCode false

section
namespace Mine
noncomputable abbrev Lbl:=Nat×Nat
inductive V where
 | none
 | bool (b:Bool)
 | int (i:Int)
 | str (s:List Nat)
 | tup (l:List V)
 | lst (l:List V)
 | ref (l:Lbl)
 | exc (c:Nat)
noncomputable instance:DecidableEq V:=fun a b=>Classical.propDecidable (a=b)
noncomputable abbrev TK:=Int×(List Nat ⊕ Int)
inductive MObj where
 | list (l:List V)
 | dict (l:List (V×V))
 | tdict (l:List (TK×V))
 | inst (c:Nat) (as:List (Nat×V))
noncomputable instance:DecidableEq MObj:=fun a b=>Classical.propDecidable (a=b)
set_option genCtorIdx false in
structure MS where
 heap:Lbl→Option MObj
 cnt:Nat→Nat
 wr:Nat
inductive Res (α:Type) where
 | ok (a:α) (s:MS)
 | exc (c:Nat) (s:MS)
 | stuck
theorem no_stuck {α:Type}{a:α}{s:MS}{P:Prop} (e:(Res.stuck:Res α)=.ok a s):P:=by cases e
theorem no_none {α:Type}{a:α}{P:Prop} (e:(none:Option α)=some a):P:=by cases e
theorem no_ft {P:Prop} (e:false=true):P:=by cases e
theorem no_tf {P:Prop} (e:true=false):P:=by cases e
noncomputable def Res.bind {α β:Type}:Res α→(α→MS→Res β)→Res β
 | .ok a s,f=>f a s
 | .exc c s,_=>.exc c s
 | .stuck,_=>.stuck
noncomputable def Res.bnd {α β:Type}:Res α→(α→MS→Res β)→Res β
 | .ok a s,f=>f a s
 | _,_=>.stuck
noncomputable def MS.put (s:MS) (l:Lbl) (o:MObj):MS:={ s with heap:=fun x=>if x=l then some o else s.heap x,wr:=s.wr + 1 }
noncomputable def MS.next (s:MS) (k:Nat):Lbl:=(k,s.cnt k)
noncomputable def MS.new (s:MS) (k:Nat) (o:MObj):MS:={ s with heap:=fun x=>if x=(k,s.cnt k) then some o else s.heap x,cnt:=fun j=>if j=k then s.cnt k + 1 else s.cnt j }
inductive Bop where | add | sub | mul | fdiv | mod | pow
inductive Cop where | eq | ne | lt | le | gt | ge | isin | notin
inductive Kind where | int | bool | str | list | tuple | valueError | cls (c:Nat)
inductive Prim where | len | max2 | int1 | sorted | tuple1 | list1 | all1
inductive Bm where | append | extend | pop | insert | count | get | join | upper
set_option genCtorIdx false in
inductive E where
 | none
 | bool (b:Bool)
 | int (i:Int)
 | str (s:List Nat)
 | loc (i:Nat)
 | gint (x:PySem.Str) (i:Int)
 | gstr (x:PySem.Str) (s:List Nat)
 | neg (a:E)
 | not (a:E)
 | and (l:List E)
 | or (l:List E)
 | bin (o:Bop) (a b:E)
 | cmp (a:E) (o:Cop) (b:E)
 | cmp2 (a:E) (o:Cop) (b:E) (o2:Cop) (c:E)
 | isC (neg:Bool) (a:E) (c:V)
 | tup (l:List E)
 | lst (l:List E)
 | lstM (k:Nat) (l:List E)
 | dictM (k:Nat) (ks:List (List Nat)) (vs:List E)
 | sub (a b:E)
 | slice (a:E) (lo hi:Option E)
 | attr (a:E) (i:Nat)
 | call (f:Nat) (l:List E)
 | meth (a:E) (m:Nat) (l:List E)
 | new (c:Nat) (l:List E)
 | isinst (a:E) (ks:List Kind)
 | isX (a:E) (k:Nat)
 | prim (p:Prim) (l:List E)
 | listM (k:Nat) (a:E)
 | dictC (k:Nat) (a:E)
 | bm (m:Bm) (a:E) (l:List E)
 | comp (M:Option Nat) (slot:Nat) (range:Bool) (it:E) (cond:Option E) (elt:E)
set_option genCtorIdx false in
inductive T where
 | loc (i:Nat)
 | item (a b:E)
set_option genCtorIdx false in
inductive S where
 | expr (e:E)
 | assign (i:Nat) (e:E)
 | setattr (a:E) (i:Nat) (e:E)
 | setitem (a b e:E)
 | unpack (ts:List T) (e:E)
 | ite (c:E) (b1 b2:List S)
 | for_ (ts:T ⊕ List T) (range:Bool) (it:E) (body:List S)
 | while_ (c:E) (body:List S)
 | ret (e:Option E)
 | raise (c:Nat)
 | exprX (e:E)
 | tryX (e:E) (c:Nat) (i:Option Nat) (b:List S)
set_option genCtorIdx false in
structure Fn where
 np:Nat
 names:List PySem.Str
 body:List S
noncomputable abbrev Loc:=List (Option V)
set_option genCtorIdx false in
structure Prog where
 fns:Nat→Option Fn
 meths:Nat→Nat→Option Nat
 inits:Nat→Option (Nat×Nat)   -- class: kind of its labels,its __init__
 excBase:Nat→List Nat           -- classes that an exception class is under (itself too)
inductive Fl where
 | next
 | ret (v:V)
noncomputable def seqOf (s:MS):V→Option (Bool×List V)
 | .tup l=>some (false,l)
 | .lst l=>some (true,l)
 | .ref r=>match s.heap r with
  | some (.list l)=>some (true,l)
  | _=>Option.none
 | _=>Option.none
noncomputable def zipAll (f:V→V→Option Bool):List V→List V→Option Bool
 | [],[]=>some true
 | x :: la,y :: lb=>match f x y,zipAll f la lb with
  | some p,some q=>some (p && q)
  | _,_=>Option.none
 | [],_ :: _=>some false
 | _ :: _,[]=>some false
noncomputable def eqNotSeq:V→Option Bool
 | .none=>some false
 | .bool _=>some false
 | .int _=>some false
 | .str _=>some false
 | _=>Option.none
noncomputable def eqFlat (a b:V):Option Bool:=match a with
 | .none=>(match b with | .none=>some true | .bool _=>some false | .int _=>some false | .str _=>some false | _=>Option.none)
 | .bool x=>(match b with | .none=>some false | .bool y=>some (x == y) | .str _=>some false | _=>Option.none)
 | .int x=>(match b with | .none=>some false | .int y=>some (decide (x=y)) | .str _=>some false | _=>Option.none)
 | .str x=>(match b with | .none=>some false | .bool _=>some false | .int _=>some false | .str y=>some (decide (x=y)) | _=>Option.none)
 | _=>Option.none
noncomputable def veq (s:MS):Nat→V→V→Option Bool
 | 0,_,_=>Option.none
 | n + 1,a,b =>
  match seqOf s a,seqOf s b with
  | some p,some q=>if p.1=q.1 then (if p.1=true∧p.2.length≠q.2.length then some false else zipAll (veq s n) p.2 q.2) else some false
  | some _,Option.none=>eqNotSeq b
  | Option.none,some _=>eqNotSeq a
  | Option.none,Option.none=>eqFlat a b
noncomputable def eqDeep:Nat:=12
noncomputable def sizeMax:Nat:=2 ^ 24
noncomputable def V.isKey:V→Bool
 | .str _=>true
 | _=>false
noncomputable def keyEq (a b:V):Bool:=match a with
 | .str x=>(match b with | .str y=>decide (x=y) | _=>false)
 | _=>false
noncomputable def dfind (k:V):List (V×V)→Option V
 | []=>Option.none
 | (a,v) :: r=>if keyEq a k then some v else dfind k r
noncomputable def dput (k v:V):List (V×V)→List (V×V)
 | []=>[(k,v)]
 | (a,w) :: r=>if keyEq a k then (a,v) :: r else (a,w) :: dput k v r
noncomputable def afind (k:Nat):List (Nat×V)→Option V
 | []=>Option.none
 | (a,v) :: r=>if a=k then some v else afind k r
noncomputable def aput (k:Nat) (v:V):List (Nat×V)→List (Nat×V)
 | []=>[(k,v)]
 | (a,w) :: r=>if a=k then (a,v) :: r else (a,w) :: aput k v r
noncomputable def idx (i:Int) (n:Nat):Option Nat :=
 if 0≤i then (if i < n then some i.toNat else Option.none) else (if 0≤i + n then some (i + n).toNat else Option.none)
noncomputable def vin (s:MS) (x:V):List V→Option Bool
 | []=>some false
 | y :: r=>match veq s eqDeep y x,vin s x r with
  | some p,some q=>some (p || q)
  | _,_=>Option.none
noncomputable def okV (s:MS) (o:Option V):Res V:=match o with
 | some v=>.ok v s
 | Option.none=>.stuck
noncomputable def okB (s:MS) (o:Option Bool):Res V:=match o with
 | some b=>.ok (.bool b) s
 | Option.none=>.stuck
noncomputable def intBits (i:Int):Nat:=if i=0 then 0 else i.natAbs.log2 + 1
noncomputable def mulOk (a b:Int):Bool:=intBits a≤64 || intBits b≤64 || intBits a + intBits b≤134217728
noncomputable def seqAdd (a b:V) (s:MS):Res V :=
 match seqOf s a,seqOf s b with
 | some p,some q=>if p.1=q.1∧p.2.length + q.2.length≤sizeMax then .ok (if p.1 then .lst (p.2 ++ q.2) else .tup (p.2 ++ q.2)) s else .stuck
 | _,_=>.stuck
noncomputable def int2 (a b:V) (f:Int→Int→Res V):Res V:=match a with
 | .int x=>(match b with | .int y=>f x y | _=>.stuck)
 | _=>.stuck
noncomputable def str2 (a b:V) (f:List Nat→List Nat→Res V):Res V:=match a with
 | .str x=>(match b with | .str y=>f x y | _=>.stuck)
 | _=>.stuck
noncomputable def binOp (o:Bop) (a b:V) (s:MS):Res V :=
 match o with
 | .add=>(match a with
  | .int _=>int2 a b fun x y=>.ok (.int (x + y)) s
  | .str _=>str2 a b fun x y=>if x.length + y.length≤sizeMax then .ok (.str (x ++ y)) s else .stuck
  | _=>seqAdd a b s)
 | .sub=>int2 a b fun x y=>.ok (.int (x - y)) s
 | .mul=>int2 a b fun x y=>if mulOk x y then .ok (.int (x * y)) s else .stuck
 | .fdiv=>int2 a b fun x y=>if y=0∨64 < intBits y then .stuck else .ok (.int (x.fdiv y)) s
 | .mod=>int2 a b fun x y=>if y=0 then .stuck else .ok (.int (x.fmod y)) s
 | .pow=>int2 a b fun x y=>if 0≤y∧(intBits x:Int) * y≤134217728 then .ok (.int (x ^ y.toNat)) s else .stuck
theorem int2_ok {a b v:V}{f:Int→Int→Res V}{s:MS} (h:int2 a b f=.ok v s):∃ x y,a=.int x∧b=.int y∧f x y=.ok v s:=by
 cases a with
 | int x=>cases b with
  | int y=>exact ⟨x,y,rfl,rfl,h⟩
  | _=>exact no_stuck h
 | _=>exact no_stuck h
theorem str2_ok {a b v:V}{f:List Nat→List Nat→Res V}{s:MS} (h:str2 a b f=.ok v s):∃ x y,a=.str x∧b=.str y∧f x y=.ok v s:=by
 cases a with
 | str x=>cases b with
  | str y=>exact ⟨x,y,rfl,rfl,h⟩
  | _=>exact no_stuck h
 | _=>exact no_stuck h
theorem ite_ok {c:Prop} [Decidable c] {a v:V}{s s':MS} (h:(if c then Res.ok a s else .stuck)=.ok v s'):c∧a=v∧s=s':=by
 by_cases hc:c
 ·rw [if_pos hc] at h; cases h; exact ⟨hc,rfl,rfl⟩
 ·rw [if_neg hc] at h; exact no_stuck h
theorem oS_inv {β:Type}{o:Option (Bool×List V)}{f:Bool×List V→Res β}{y:β}{s:MS} (e:(match o with | some p=>f p | Option.none=>.stuck)=.ok y s):∃ p,o=some p∧f p=.ok y s:=by
 cases o with
 | none=>exact no_stuck e
 | some p=>exact ⟨p,rfl,e⟩
theorem oL_inv {β:Type}{o:Option (Lbl×List V)}{f:Lbl×List V→Res β}{y:β}{s:MS} (e:(match o with | some p=>f p | Option.none=>.stuck)=.ok y s):∃ p,o=some p∧f p=.ok y s:=by
 cases o with
 | none=>exact no_stuck e
 | some p=>exact ⟨p,rfl,e⟩
theorem oD_inv {β:Type}{o:Option (Lbl×List (V×V))}{f:Lbl×List (V×V)→Res β}{y:β}{s:MS} (e:(match o with | some p=>f p | Option.none=>.stuck)=.ok y s):∃ p,o=some p∧f p=.ok y s:=by
 cases o with
 | none=>exact no_stuck e
 | some p=>exact ⟨p,rfl,e⟩
theorem oN_inv {β:Type}{o:Option (Nat)}{f:Nat→Res β}{y:β}{s:MS} (e:(match o with | some p=>f p | Option.none=>.stuck)=.ok y s):∃ p,o=some p∧f p=.ok y s:=by
 cases o with
 | none=>exact no_stuck e
 | some p=>exact ⟨p,rfl,e⟩
theorem oV_inv {β:Type}{o:Option (V)}{f:V→Res β}{y:β}{s:MS} (e:(match o with | some p=>f p | Option.none=>.stuck)=.ok y s):∃ p,o=some p∧f p=.ok y s:=by
 cases o with
 | none=>exact no_stuck e
 | some p=>exact ⟨p,rfl,e⟩
theorem oT_inv {β:Type}{o:Option (List Nat)}{f:List Nat→Res β}{y:β}{s:MS} (e:(match o with | some p=>f p | Option.none=>.stuck)=.ok y s):∃ p,o=some p∧f p=.ok y s:=by
 cases o with
 | none=>exact no_stuck e
 | some p=>exact ⟨p,rfl,e⟩
theorem oLs_inv {β:Type}{o:Option (List V)}{f:List V→Res β}{y:β}{s:MS} (e:(match o with | some p=>f p | Option.none=>.stuck)=.ok y s):∃ p,o=some p∧f p=.ok y s:=by
 cases o with
 | none=>exact no_stuck e
 | some p=>exact ⟨p,rfl,e⟩
theorem if_inv {β:Type}{c:Prop} [Decidable c] {x:Res β}{y:β}{s:MS} (e:(if c then x else .stuck)=.ok y s):c∧x=.ok y s:=by
 by_cases h:c
 ·rw [if_pos h] at e; exact ⟨h,e⟩
 ·rw [if_neg h] at e; exact no_stuck e
theorem ok_inv {β:Type}{a b:β}{s s':MS} (e:Res.ok a s=.ok b s'):b=a∧s'=s:=by cases e; exact ⟨rfl,rfl⟩
theorem ref_inv {β:Type}{X:V}{f:Lbl→Res β}{y:β}{s:MS} (e:(match X with | .ref r=>f r | _=>.stuck)=.ok y s):∃ r,X=.ref r∧f r=.ok y s:=by
 cases X with
 | ref r=>exact ⟨r,rfl,e⟩
 | _=>exact no_stuck e
theorem lst_inv {β:Type}{X:V}{f:List V→Res β}{y:β}{s:MS} (e:(match X with | .lst r=>f r | _=>.stuck)=.ok y s):∃ r,X=.lst r∧f r=.ok y s:=by
 cases X with
 | lst r=>exact ⟨r,rfl,e⟩
 | _=>exact no_stuck e
theorem int_inv {β:Type}{X:V}{f:Int→Res β}{y:β}{s:MS} (e:(match X with | .int r=>f r | _=>.stuck)=.ok y s):∃ r,X=.int r∧f r=.ok y s:=by
 cases X with
 | int r=>exact ⟨r,rfl,e⟩
 | _=>exact no_stuck e
theorem bool_inv {β:Type}{X:V}{f:Bool→Res β}{y:β}{s:MS} (e:(match X with | .bool r=>f r | _=>.stuck)=.ok y s):∃ r,X=.bool r∧f r=.ok y s:=by
 cases X with
 | bool r=>exact ⟨r,rfl,e⟩
 | _=>exact no_stuck e
theorem str_inv {β:Type}{X:V}{f:List Nat→Res β}{y:β}{s:MS} (e:(match X with | .str r=>f r | _=>.stuck)=.ok y s):∃ r,X=.str r∧f r=.ok y s:=by
 cases X with
 | str r=>exact ⟨r,rfl,e⟩
 | _=>exact no_stuck e
theorem okV_inv {o:Option V}{Z:V}{st st':MS} (h:okV st o=.ok Z st'):o=some Z∧st'=st:=by
 cases o with
 | none=>exact no_stuck h
 | some b=>cases h; exact ⟨rfl,rfl⟩
theorem okB_inv {o:Option Bool}{Z:V}{st st':MS} (h:okB st o=.ok Z st'):∃ b,o=some b∧Z=.bool b∧st'=st:=by
 cases o with
 | none=>exact no_stuck h
 | some b=>cases h; exact ⟨b,rfl,rfl,rfl⟩
noncomputable def cmpOp (o:Cop) (a b:V) (s:MS):Res V :=
 match o with
 | .eq=>okB s (veq s eqDeep a b)
 | .ne=>okB s ((veq s eqDeep a b).map (!·))
 | .lt=>match a,b with | .int x,.int y=>.ok (.bool (decide (x < y))) s | _,_=>.stuck
 | .le=>match a,b with | .int x,.int y=>.ok (.bool (decide (x≤y))) s | _,_=>.stuck
 | .gt=>match a,b with | .int x,.int y=>.ok (.bool (decide (y < x))) s | _,_=>.stuck
 | .ge=>match a,b with | .int x,.int y=>.ok (.bool (decide (y≤x))) s | _,_=>.stuck
 | .isin=>okB s (memb a b s)
 | .notin=>okB s ((memb a b s).map (!·))
where
 memb (a b:V) (s:MS):Option Bool :=
  match seqOf s b with
  | some (_,l)=>vin s a l
  | Option.none=>match b with
   | .str y=>match a with | .str [c]=>some (decide (c∈y)) | _=>Option.none
   | .ref r=>match s.heap r with
    | some (.dict l)=>if a.isKey then some (dfind a l).isSome else Option.none
    | _=>Option.none
   | _=>Option.none
noncomputable def getItem (a b:V) (s:MS):Res V :=
 match b with
 | .int i=>match a with
  | .str x=>if x.length≤sizeMax then okV s ((idx i x.length).bind fun j=>(x[j]?).map fun c=>.str [c]) else .stuck
  | a=>match seqOf s a with
   | some (_,l)=>okV s ((idx i l.length).bind fun j=>l[j]?)
   | Option.none=>.stuck
 | b=>match a with
  | .ref r=>match s.heap r with
   | some (.dict l)=>if b.isKey then okV s (dfind b l) else .stuck
   | _=>.stuck
  | _=>.stuck
noncomputable def listAt (a:V) (s:MS):Option (Lbl×List V) :=
 match a with
 | .ref r=>match s.heap r with
  | some (.list l)=>some (r,l)
  | _=>Option.none
 | _=>Option.none
noncomputable def dictAt (a:V) (s:MS):Option (Lbl×List (V×V)) :=
 match a with
 | .ref r=>match s.heap r with
  | some (.dict l)=>some (r,l)
  | _=>Option.none
 | _=>Option.none
noncomputable def setItem (a b v:V) (s:MS):Res Unit :=
 match dictAt a s with
  | some p=>if b.isKey∧p.2.length < sizeMax then .ok () (s.put p.1 (.dict (dput b v p.2))) else .stuck
  | Option.none=>.stuck
noncomputable def cutAt (d:Nat):Option V→Option Nat
 | Option.none=>some d
 | some (.int i)=>if 0≤i then some i.toNat else Option.none
 | _=>Option.none
noncomputable def getSlice (a:V) (lo hi:Option V) (s:MS):Res V :=
 match a with
 | .str x=>match cutAt 0 lo,cutAt x.length hi with
  | some i,some j=>if x.length≤sizeMax then .ok (.str ((x.take j).drop i)) s else .stuck
  | _,_=>.stuck
 | a=>match seqOf s a with
  | some (true,l)=>match cutAt 0 lo,cutAt l.length hi with
   | some i,some j=>.ok (.lst ((l.take j).drop i)) s
   | _,_=>.stuck
  | some (false,l)=>match cutAt 0 lo,cutAt l.length hi with
   | some i,some j=>if ((l.take j).drop i).length < l.length then .ok (.tup ((l.take j).drop i)) s else .stuck
   | _,_=>.stuck
  | Option.none=>.stuck
noncomputable def getAttr (a:V) (i:Nat) (s:MS):Res V :=
 match a with
 | .ref r=>match s.heap r with
  | some (.inst _ as)=>okV s (afind i as)
  | _=>.stuck
 | _=>.stuck
noncomputable def setAttr (a:V) (i:Nat) (v:V) (s:MS):Res Unit :=
 match a with
 | .ref r=>match s.heap r with
  | some (.inst c as)=>if as.length < 1000 then .ok () (s.put r (.inst c (aput i v as))) else .stuck
  | _=>.stuck
 | _=>.stuck
inductive Tag where | none | bool | int | str | tuple | list | dict
noncomputable def tagOf (s:MS):V→Option Tag
 | .none=>some .none
 | .bool _=>some .bool
 | .int _=>some .int
 | .str _=>some .str
 | .tup _=>some .tuple
 | .lst _=>some .list
 | .ref r=>match s.heap r with
  | some (.list _)=>some .list
  | some (.dict _)=>some .dict
  | _=>Option.none
 | .exc _=>Option.none
noncomputable def kindHas (g:Tag):Kind→Option Bool
 | .int=>some (match g with | .int | .bool=>true | _=>false)
 | .bool=>some (match g with | .bool=>true | _=>false)
 | .str=>some (match g with | .str=>true | _=>false)
 | .tuple=>some (match g with | .tuple=>true | _=>false)
 | .list=>some (match g with | .list=>true | _=>false)
 | .valueError=>Option.none
 | .cls _=>Option.none
noncomputable def isKind (P:Prog) (s:MS) (v:V) (k:Kind):Option Bool :=
 match v with
 | .exc d=>match k with
  | .valueError=>some true
  | .cls c=>some ((P.excBase d).contains c)
  | _=>Option.none
 | v=>match tagOf s v with
  | some g=>kindHas g k
  | Option.none=>Option.none
noncomputable def isKinds (P:Prog) (s:MS) (v:V):List Kind→Option Bool
 | []=>some false
 | k :: r=>match isKind P s v k with
  | some true=>some true
  | some false=>isKinds P s v r
  | Option.none=>Option.none
noncomputable def allTrue:List V→Option Bool
 | []=>some true
 | .bool b :: r=>(allTrue r).map (b && ·)
 | _ :: _=>Option.none
noncomputable def firstInt:V→Option Int
 | .tup (.int x :: _)=>some x
 | _=>Option.none
noncomputable def rising:List Int→Bool
 | x :: y :: r=>decide (x < y) && rising (y :: r)
 | _=>true
noncomputable def posOf (x:Int):List Int→Nat
 | []=>0
 | k :: r=>if x < k then 0 else posOf x r + 1
noncomputable def wantL (m pos:Nat):List Nat:=List.range pos ++ m :: (List.range (m - pos)).map (pos + ·)
noncomputable def sortedLast (l:List V):Option (List V) :=
 match l.reverse with
 | []=>some []
 | v :: r=>match firstInt v,(r.reverse).mapM firstInt with
  | some x,some ks=>if rising ks && !ks.contains x && decide (l.length≤6) then some ((wantL ks.length (posOf x ks)).map fun i=>l.getD i .none) else Option.none
  | _,_=>Option.none
noncomputable def lenV (v:V) (s:MS):Res V :=
 match v with
 | .str x=>if x.length≤sizeMax then .ok (.int x.length) s else .stuck
 | v=>match seqOf s v with
  | some p=>.ok (.int p.2.length) s
  | Option.none=>.stuck
noncomputable def prim1 (p:Prim) (v:V) (s:MS):Res V :=
 match p with
 | .len=>lenV v s
 | .tuple1=>match seqOf s v with
  | some p=>.ok (.tup p.2) s
  | Option.none=>.stuck
 | .list1=>match seqOf s v with
  | some p=>.ok (.lst p.2) s
  | Option.none=>.stuck
 | .sorted=>match v with
  | .lst l=>match sortedLast l with
   | some m=>.ok (.lst m) s
   | Option.none=>.stuck
  | _=>.stuck
 | _=>.stuck
noncomputable def prim2 (p:Prim) (v w:V) (s:MS):Res V :=
 match p with
 | .max2=>match v,w with
  | .int x,.int y=>.ok (.int (if x < y then y else x)) s
  | _,_=>.stuck
 | _=>.stuck
noncomputable def prim (p:Prim) (l:List V) (s:MS):Res V :=
 match l with
 | [v]=>prim1 p v s
 | [v,w]=>prim2 p v w s
 | _=>.stuck
noncomputable def catStrs:List V→Option (List Nat)
 | []=>some []
 | .str x :: r=>(catStrs r).map (x ++ ·)
 | _=>Option.none
noncomputable def allBool:List V→Bool
 | []=>true
 | .bool _ :: r=>allBool r
 | _=>false
noncomputable def bm0 (m:Bm) (a:V) (s:MS):Res V :=
 match m with
 | .upper=>match a with
  | .str x=>if x.all (fun c=>decide (97≤c) && decide (c≤122)) && decide (x.length≤1000) then .ok (.str (x.map (· - 32))) s else .stuck
  | _=>.stuck
 | _=>.stuck
noncomputable def bm1 (m:Bm) (a v:V) (s:MS):Res V :=
 match m with
 | .append=>match listAt a s with
  | some p=>if p.2.length < sizeMax then .ok .none (s.put p.1 (.list (p.2 ++ [v]))) else .stuck
  | Option.none=>.stuck
 | .extend=>match listAt a s with
  | some p=>match seqOf s v with
   | some q=>if p.2.length + q.2.length≤sizeMax then .ok .none (s.put p.1 (.list (p.2 ++ q.2))) else .stuck
   | Option.none=>.stuck
  | Option.none=>.stuck
 | .pop=>match listAt a s with
  | some p=>match v with
   | .int i=>match idx i p.2.length with
    | some j=>match p.2[j]? with
     | some v=>.ok v (s.put p.1 (.list (p.2.eraseIdx j)))
     | Option.none=>.stuck
    | Option.none=>.stuck
   | _=>.stuck
  | Option.none=>.stuck
 | .count=>match a with
  | .lst l=>match v with
   | .bool b=>if b && allBool l then .ok (.int (l.countP (·=.bool true))) s else .stuck
   | _=>.stuck
  | _=>.stuck
 | .join=>match a with
  | .str x0=>match x0 with
   | []=>match v with
    | .lst l=>match catStrs l with
     | some x=>if x.length≤sizeMax then .ok (.str x) s else .stuck
     | Option.none=>.stuck
    | _=>.stuck
   | _ :: _=>.stuck
  | _=>.stuck
 | _=>.stuck
noncomputable def bm2 (m:Bm) (a v w:V) (s:MS):Res V :=
 match m with
 | .insert=>match listAt a s with
  | some p=>match v with
   | .int i=>if 0≤i∧i≤p.2.length∧p.2.length < sizeMax then .ok .none (s.put p.1 (.list (p.2.take i.toNat ++ w :: p.2.drop i.toNat))) else .stuck
   | _=>.stuck
  | Option.none=>.stuck
 | _=>.stuck
noncomputable def bmeth (m:Bm) (a:V) (l:List V) (s:MS):Res V :=
 match l with
 | []=>bm0 m a s
 | [v]=>bm1 m a v s
 | [v,w]=>bm2 m a v w s
 | _=>.stuck
noncomputable def itemsOf (s:MS) (range:Bool) (v:V):Option (List V) :=
 match range with
 | true=>match v with
  | .int n=>if -1000≤n∧n≤sizeMax then some ((List.range n.toNat).map fun (i:Nat)=>.int i) else Option.none
  | _=>Option.none
 | false=>match v with
  | .str x=>if x.all (fun c=>decide (c < 128)) then some (x.map fun c=>.str [c]) else Option.none
  | v=>match dictAt v s with
   | some p=>some (p.2.map (·.1))
   | Option.none=>(seqOf s v).map (·.2)
noncomputable def stays (s₀ s:MS) (range:Bool) (v:V):Bool :=
 match range,v with
 | false,.ref r=>decide (s₀.heap r=s.heap r) && ((dictAt v s₀).isNone || decide (s₀.wr=s.wr))
 | _,_=>true
noncomputable abbrev Calls:=Nat→List V→MS→Res V
noncomputable def truth:V→MS→Res Bool
 | .bool b,s=>.ok b s
 | _,_=>.stuck
noncomputable def makeInst (P:Prog) (C:Calls) (c:Nat) (vs:List V) (s:MS):Res V :=
 match P.inits c with
 | some (k,f)=>(C f (.ref (k,s.cnt k) :: vs) (s.new k (.inst c []))).bind fun r s'=>match r with
  | .none=>.ok (.ref (k,s.cnt k)) s'
  | _=>.stuck
 | Option.none=>.stuck
noncomputable def methOf (P:Prog) (a:V) (m:Nat) (s:MS):Option Nat :=
 match a with
 | .ref r=>match s.heap r with
  | some (.inst c _)=>P.meths c m
  | _=>Option.none
 | _=>Option.none
noncomputable def bmOk (m:Bm) (a:V) (s:MS):Bool :=
 match m with
 | .count=>match a with | .lst _=>true | _=>false
 | .join=>match a with | .str _=>true | _=>false
 | .upper=>match a with | .str _=>true | _=>false
 | .get=>(dictAt a s).isSome
 | _=>(listAt a s).isSome
noncomputable def compLoop (s₀:MS) (range:Bool) (src:V) (slot:Nat) (cond:Option (Loc→MS→Res V)) (elt:Loc→MS→Res V) (loc:Loc):List V→List V→MS→Res (List V)
 | acc,[],s=>if stays s₀ s range src then .ok acc s else .stuck
 | acc,x :: r,s =>
  if stays s₀ s range src then
   (match cond with
    | some c=>(c (loc.set slot (some x)) s).bind truth
    | Option.none=>.ok true s).bind fun b s =>
   if b then (elt (loc.set slot (some x)) s).bind fun v s=>if acc.length < sizeMax then compLoop s₀ range src slot cond elt loc (acc ++ [v]) r s else .stuck
   else compLoop s₀ range src slot cond elt loc acc r s
  else .stuck
theorem compLoop_nil {s₀:MS}{range:Bool}{src:V}{slot:Nat}{cond:Option (Loc→MS→Res V)}{elt:Loc→MS→Res V}{loc:Loc}{acc:List V}{s:MS}:compLoop s₀ range src slot cond elt loc acc [] s=if stays s₀ s range src then .ok acc s else .stuck:=rfl
theorem compLoop_cons {s₀:MS}{range:Bool}{src x:V}{r:List V}{slot:Nat}{cond:Option (Loc→MS→Res V)}{elt:Loc→MS→Res V}{loc:Loc}{acc:List V}{s:MS}:compLoop s₀ range src slot cond elt loc acc (x :: r) s =
  if stays s₀ s range src then
   (match cond with
    | some c=>(c (loc.set slot (some x)) s).bind truth
    | Option.none=>.ok true s).bind fun b s =>
   if b then (elt (loc.set slot (some x)) s).bind fun v s=>if acc.length < sizeMax then compLoop s₀ range src slot cond elt loc (acc ++ [v]) r s else .stuck
   else compLoop s₀ range src slot cond elt loc acc r s
  else .stuck:=rfl
mutual
noncomputable def ev (P:Prog) (C:Calls):E→Loc→MS→Res V
 | .none,_,s=>.ok .none s
 | .bool b,_,s=>.ok (.bool b) s
 | .int i,_,s=>.ok (.int i) s
 | .str x,_,s=>.ok (.str x) s
 | .loc i,l,s=>match l[i]? with
  | some (some v)=>.ok v s
  | _=>.stuck
 | .gint _ i,_,s=>.ok (.int i) s
 | .gstr _ x,_,s=>.ok (.str x) s
 | .neg a,l,s=>(ev P C a l s).bind fun v s=>match v with
  | .int i=>.ok (.int (-i)) s
  | _=>.stuck
 | .not a,l,s=>(ev P C a l s).bind fun v s=>(truth v s).bind fun b s=>.ok (.bool (!b)) s
 | .and es,l,s=>evAnd P C es l s
 | .or es,l,s=>evOr P C es l s
 | .bin o a b,l,s=>(ev P C a l s).bind fun x s=>(ev P C b l s).bind fun y s=>binOp o x y s
 | .cmp a o b,l,s=>(ev P C a l s).bind fun x s=>(ev P C b l s).bind fun y s=>cmpOp o x y s
 | .cmp2 a o b o2 c,l,s=>(ev P C a l s).bind fun x s=>(ev P C b l s).bind fun y s=>(cmpOp o x y s).bind fun v s=>(truth v s).bind fun t s =>
   if t then (ev P C c l s).bind fun z s=>cmpOp o2 y z s else .ok (.bool false) s
 | .isC n a c,l,s=>(ev P C a l s).bind fun v s=>match c with
  | .none | .bool _=>.ok (.bool (decide (v=c) != n)) s
  | _=>.stuck
 | .tup es,l,s=>(evL P C es l s).bind fun vs s=>if vs.length≤sizeMax then .ok (.tup vs) s else .stuck
 | .lst es,l,s=>(evL P C es l s).bind fun vs s=>if vs.length≤sizeMax then .ok (.lst vs) s else .stuck
 | .lstM k es,l,s=>(evL P C es l s).bind fun vs s=>if vs.length≤sizeMax then .ok (.ref (k,s.cnt k)) (s.new k (.list vs)) else .stuck
 | .dictM k ks es,l,s=>(evL P C es l s).bind fun vs s=>if ks.length=vs.length∧ks.length≤15∧ks.Nodup then
   .ok (.ref (k,s.cnt k)) (s.new k (.dict ((ks.zip vs).map fun p=>(.str p.1,p.2)))) else .stuck
 | .sub a b,l,s=>(ev P C a l s).bind fun x s=>(ev P C b l s).bind fun y s=>getItem x y s
 | .slice a lo hi,l,s=>(ev P C a l s).bind fun x s=>(evO P C lo l s).bind fun y s=>(evO P C hi l s).bind fun z s=>getSlice x y z s
 | .attr a i,l,s=>(ev P C a l s).bind fun x s=>getAttr x i s
 | .call f es,l,s=>(evL P C es l s).bind fun vs s=>C f vs s
 | .meth a m es,l,s=>(ev P C a l s).bind fun x s=>match methOf P x m s with
  | some f=>(evL P C es l s).bind fun vs s=>C f (x :: vs) s
  | Option.none=>.stuck
 | .new c es,l,s=>(evL P C es l s).bind fun vs s=>makeInst P C c vs s
 | .isinst a ks,l,s=>(ev P C a l s).bind fun x s=>okB s (isKinds P s x ks)
 | .isX a k,l,s=>(ev P C a l s).bind fun v s=>match v with
  | .exc c=>if (P.excBase c).contains c then .ok (.bool ((P.excBase c).contains k)) s else .stuck
  | _=>.stuck
 | .prim p es,l,s=>(evL P C es l s).bind fun vs s=>prim p vs s
 | .listM k a,l,s=>(ev P C a l s).bind fun x s=>match seqOf s x with
  | some (_,vs)=>.ok (.ref (k,s.cnt k)) (s.new k (.list vs))
  | Option.none=>.stuck
 | .dictC k a,l,s=>(ev P C a l s).bind fun x s=>match x with
  | .ref r=>match s.heap r with
   | some (.dict d)=>if d.length≤1000 then .ok (.ref (k,s.cnt k)) (s.new k (.dict d)) else .stuck
   | _=>.stuck
  | _=>.stuck
 | .bm m a es,l,s=>(ev P C a l s).bind fun x s=>if bmOk m x s then (evL P C es l s).bind fun vs s=>bmeth m x vs s else .stuck
 | .comp M slot range it cond elt,l,s=>(ev P C it l s).bind fun src s=>match itemsOf s range src with
  | some xs=>(compLoop s range src slot (evC P C cond) (ev P C elt) l [] xs s).bind fun vs s=>match M with
   | Option.none=>.ok (.lst vs) s
   | some k=>.ok (.ref (k,s.cnt k)) (s.new k (.list vs))
  | Option.none=>.stuck
noncomputable def evC (P:Prog) (C:Calls):Option E→Option (Loc→MS→Res V)
 | Option.none=>Option.none
 | some e=>some (ev P C e)
noncomputable def evO (P:Prog) (C:Calls):Option E→Loc→MS→Res (Option V)
 | Option.none,_,s=>.ok Option.none s
 | some e,l,s=>(ev P C e l s).bind fun v s=>.ok (some v) s
noncomputable def evL (P:Prog) (C:Calls):List E→Loc→MS→Res (List V)
 | [],_,s=>.ok [] s
 | e :: r,l,s=>(ev P C e l s).bind fun v s=>(evL P C r l s).bind fun vs s=>.ok (v :: vs) s
noncomputable def evAnd (P:Prog) (C:Calls):List E→Loc→MS→Res V
 | [],_,_=>.stuck
 | [e],l,s=>ev P C e l s
 | e :: e' :: r,l,s=>(ev P C e l s).bind fun v s=>(truth v s).bind fun b s=>if b then evAnd P C (e' :: r) l s else .ok v s
noncomputable def evOr (P:Prog) (C:Calls):List E→Loc→MS→Res V
 | [],_,_=>.stuck
 | [e],l,s=>ev P C e l s
 | e :: e' :: r,l,s=>(ev P C e l s).bind fun v s=>(truth v s).bind fun b s=>if b then .ok v s else evOr P C (e' :: r) l s
end
noncomputable def setT (P:Prog) (C:Calls) (t:T) (v:V) (l:Loc) (s:MS):Res Loc :=
 match t with
 | .loc i=>if i < l.length then .ok (l.set i (some v)) s else .stuck
 | .item a b=>(ev P C a l s).bind fun x s=>(ev P C b l s).bind fun y s=>(setItem x y v s).bind fun _ s=>.ok l s
noncomputable def setTs (P:Prog) (C:Calls):List T→List V→Loc→MS→Res Loc
 | [],[],l,s=>.ok l s
 | t :: ts,v :: vs,l,s=>(setT P C t v l s).bind fun l s=>setTs P C ts vs l s
 | _,_,_,_=>.stuck
noncomputable def unpackT (P:Prog) (C:Calls) (ts:List T) (v:V) (l:Loc) (s:MS):Res Loc :=
 match v with
 | .tup vs=>setTs P C ts vs l s
 | _=>.stuck
noncomputable def unpackV (P:Prog) (C:Calls) (ts:List T) (v:V) (l:Loc) (s:MS):Res Loc :=
 match v with
 | .tup vs=>setTs P C ts vs l s
 | .lst vs=>setTs P C ts vs l s
 | _=>.stuck
noncomputable def setTT (P:Prog) (C:Calls) (ts:T ⊕ List T) (v:V) (l:Loc) (s:MS):Res Loc :=
 match ts with
 | .inl t=>setT P C t v l s
 | .inr ts=>unpackT P C ts v l s
noncomputable def forOk (ts:T ⊕ List T) (range:Bool) (src:V) (s:MS):Bool :=
 match ts with
 | .inl _=>true
 | .inr _=>!range && (seqOf s src).isSome
noncomputable def forLoop (s₀:MS) (range:Bool) (src:V) (tgt:V→Loc→MS→Res Loc) (body:Loc→MS→Res (Fl×Loc)):List V→Loc→MS→Res (Fl×Loc)
 | [],l,s=>if stays s₀ s range src then .ok (.next,l) s else .stuck
 | x :: r,l,s =>
  if stays s₀ s range src then
   (tgt x l s).bnd fun l s=>(body l s).bind fun p s=>match p.1 with
    | .next=>forLoop s₀ range src tgt body r p.2 s
    | .ret v=>.ok (.ret v,p.2) s
  else .stuck
theorem forLoop_nil {s₀:MS}{range:Bool}{src:V}{tgt:V→Loc→MS→Res Loc}{body:Loc→MS→Res (Fl×Loc)}{l:Loc}{s:MS}:forLoop s₀ range src tgt body [] l s=if stays s₀ s range src then .ok (.next,l) s else .stuck:=rfl
theorem forLoop_cons {s₀:MS}{range:Bool}{src x:V}{r:List V}{tgt:V→Loc→MS→Res Loc}{body:Loc→MS→Res (Fl×Loc)}{l:Loc}{s:MS}:forLoop s₀ range src tgt body (x :: r) l s=if stays s₀ s range src then
   (tgt x l s).bnd fun l s=>(body l s).bind fun p s=>match p.1 with
    | .next=>forLoop s₀ range src tgt body r p.2 s
    | .ret v=>.ok (.ret v,p.2) s
  else .stuck:=rfl
noncomputable def whileLoop (test:Loc→MS→Res V) (body:Loc→MS→Res (Fl×Loc)):Nat→Loc→MS→Res (Fl×Loc)
 | 0,_,_=>.stuck
 | n + 1,l,s=>(test l s).bnd fun v s=>(truth v s).bnd fun b s =>
  if b then (body l s).bind fun p s=>match p.1 with
   | .next=>whileLoop test body n p.2 s
   | .ret v=>.ok (.ret v,p.2) s
  else .ok (.next,l) s
noncomputable def evQ (P:Prog) (C:Calls):E→Loc→MS→Res V
 | .call f es,l,s=>(evL P C es l s).bnd fun vs s=>C f vs s
 | .meth a m es,l,s=>(ev P C a l s).bnd fun x s=>match methOf P x m s with
  | some f=>(evL P C es l s).bnd fun vs s=>C f (x :: vs) s
  | Option.none=>.stuck
 | .new c es,l,s=>(evL P C es l s).bnd fun vs s=>makeInst P C c vs s
 | _,_,_=>.stuck
noncomputable def setX (i:Option Nat) (c:Nat) (l:Loc):Loc:=match i with
 | some i=>l.set i (some (.exc c))
 | Option.none=>l
noncomputable def landOn (P:Prog) (k:Loc→MS→Res (Fl×Loc)) (c:Nat) (i:Option Nat) (l:Loc):Res V→Res (Fl×Loc)
 | .ok _ s=>.ok (.next,l) s
 | .exc c' s=>if (P.excBase c').contains c' && (P.excBase c').contains c then (k (setX i c' l) s).bnd fun p s=>(match p.1 with | .ret v=>.ok (.ret v,[]) s | .next=>.stuck) else .stuck
 | .stuck=>.stuck
mutual
noncomputable def ex (P:Prog) (C:Calls) (n:Nat):S→Loc→MS→Res (Fl×Loc)
 | .expr e,l,s=>(ev P C e l s).bnd fun _ s=>.ok (.next,l) s
 | .assign i e,l,s=>(ev P C e l s).bnd fun v s=>if i < l.length then .ok (.next,l.set i (some v)) s else .stuck
 | .setattr a i e,l,s=>(ev P C e l s).bnd fun v s=>(ev P C a l s).bnd fun x s=>(setAttr x i v s).bnd fun _ s=>.ok (.next,l) s
 | .setitem a b e,l,s=>(ev P C e l s).bnd fun v s=>(ev P C a l s).bnd fun x s=>(ev P C b l s).bnd fun y s=>(setItem x y v s).bnd fun _ s=>.ok (.next,l) s
 | .unpack ts e,l,s=>(ev P C e l s).bnd fun v s=>(unpackV P C ts v l s).bnd fun l s=>.ok (.next,l) s
 | .ite c b1 b2,l,s=>(ev P C c l s).bnd fun v s=>(truth v s).bnd fun b s=>if b then exs P C n b1 l s else exs P C n b2 l s
 | .for_ ts range it body,l,s=>(ev P C it l s).bnd fun src s=>match itemsOf s range src with
  | some xs=>if forOk ts range src s then forLoop s range src (setTT P C ts) (exs P C n body) xs l s else .stuck
  | Option.none=>.stuck
 | .while_ c body,l,s=>whileLoop (ev P C c) (exs P C n body) n l s
 | .ret e,l,s=>match e with
  | some e=>(ev P C e l s).bnd fun v s=>.ok (.ret v,l) s
  | Option.none=>.ok (.ret .none,l) s
 | .raise c,_,s=>.exc c s
 | .exprX e,l,s=>(evQ P C e l s).bind fun _ s=>.ok (.next,l) s
 | .tryX e c i b,l,s=>landOn P (exs P C n b) c i l (evQ P C e l s)
noncomputable def exs (P:Prog) (C:Calls) (n:Nat):List S→Loc→MS→Res (Fl×Loc)
 | [],l,s=>.ok (.next,l) s
 | st :: r,l,s=>(ex P C n st l s).bind fun p s=>match p.1 with
  | .next=>exs P C n r p.2 s
  | .ret v=>.ok (.ret v,p.2) s
noncomputable def exH (P:Prog) (C:Calls) (n:Nat):List (Nat×Option Nat×List S)→Nat→Loc→MS→Res (Fl×Loc)
 | [],c,_,s=>.exc c s
 | (k,x,b) :: r,c,l,s=>if (P.excBase c).contains k then
   (exs P C n b (match x with | some i=>l.set i (some (.exc c)) | Option.none=>l) s).bind fun p s =>
    .ok (p.1,match x with | some i=>p.2.set i Option.none | Option.none=>p.2) s
  else exH P C n r c l s
end
noncomputable def run (P:Prog):Nat→Calls
 | 0,_,_,_=>.stuck
 | n + 1,f,vs,s=>match P.fns f with
  | some fn=>if vs.length=fn.np then
    (exs P (run P n) n fn.body (vs.map some ++ List.replicate (fn.names.length - fn.np) Option.none) s).bind fun p s=>.ok (match p.1 with | .ret v=>v | .next=>.none) s
   else .stuck
  | Option.none=>.stuck
theorem ev_loc (P:Prog) (C:Calls):∀ i l s,ev P C (.loc i) l s=match l[i]? with
  | some (some v)=>.ok v s
  | _=>.stuck:=by intros; rfl
theorem ev_neg (P:Prog) (C:Calls):∀ a l s,ev P C (.neg a) l s=(ev P C a l s).bind fun v s=>match v with
  | .int i=>.ok (.int (-i)) s
  | _=>.stuck:=by intros; rfl
theorem ev_not (P:Prog) (C:Calls):∀ a l s,ev P C (.not a) l s=(ev P C a l s).bind fun v s=>(truth v s).bind fun b s=>.ok (.bool (!b)) s:=by intros; rfl
theorem ev_and (P:Prog) (C:Calls):∀ es l s,ev P C (.and es) l s=evAnd P C es l s:=by intros; rfl
theorem ev_or (P:Prog) (C:Calls):∀ es l s,ev P C (.or es) l s=evOr P C es l s:=by intros; rfl
theorem ev_bin (P:Prog) (C:Calls):∀ o a b l s,ev P C (.bin o a b) l s=(ev P C a l s).bind fun x s=>(ev P C b l s).bind fun y s=>binOp o x y s:=by intros; rfl
theorem ev_cmp (P:Prog) (C:Calls):∀ a o b l s,ev P C (.cmp a o b) l s=(ev P C a l s).bind fun x s=>(ev P C b l s).bind fun y s=>cmpOp o x y s:=by intros; rfl
theorem ev_cmp2 (P:Prog) (C:Calls):∀ a o b o2 c l s,ev P C (.cmp2 a o b o2 c) l s=(ev P C a l s).bind fun x s=>(ev P C b l s).bind fun y s=>(cmpOp o x y s).bind fun v s=>(truth v s).bind fun t s =>
   if t then (ev P C c l s).bind fun z s=>cmpOp o2 y z s else .ok (.bool false) s:=by intros; rfl
theorem ev_isC (P:Prog) (C:Calls):∀ n a c l s,ev P C (.isC n a c) l s=(ev P C a l s).bind fun v s=>match c with
  | .none | .bool _=>.ok (.bool (decide (v=c) != n)) s
  | _=>.stuck:=by intros; rfl
theorem ev_tup (P:Prog) (C:Calls):∀ es l s,ev P C (.tup es) l s=(evL P C es l s).bind fun vs s=>if vs.length≤sizeMax then .ok (.tup vs) s else .stuck:=by intros; rfl
theorem ev_lst (P:Prog) (C:Calls):∀ es l s,ev P C (.lst es) l s=(evL P C es l s).bind fun vs s=>if vs.length≤sizeMax then .ok (.lst vs) s else .stuck:=by intros; rfl
theorem ev_lstM (P:Prog) (C:Calls):∀ k es l s,ev P C (.lstM k es) l s=(evL P C es l s).bind fun vs s=>if vs.length≤sizeMax then .ok (.ref (k,s.cnt k)) (s.new k (.list vs)) else .stuck:=by intros; rfl
theorem ev_dictM (P:Prog) (C:Calls):∀ k ks es l s,ev P C (.dictM k ks es) l s=(evL P C es l s).bind fun vs s=>if ks.length=vs.length∧ks.length≤15∧ks.Nodup then
   .ok (.ref (k,s.cnt k)) (s.new k (.dict ((ks.zip vs).map fun p=>(.str p.1,p.2)))) else .stuck:=by intros; rfl
theorem ev_sub (P:Prog) (C:Calls):∀ a b l s,ev P C (.sub a b) l s=(ev P C a l s).bind fun x s=>(ev P C b l s).bind fun y s=>getItem x y s:=by intros; rfl
theorem ev_slice (P:Prog) (C:Calls):∀ a lo hi l s,ev P C (.slice a lo hi) l s=(ev P C a l s).bind fun x s=>(evO P C lo l s).bind fun y s=>(evO P C hi l s).bind fun z s=>getSlice x y z s:=by intros; rfl
theorem ev_attr (P:Prog) (C:Calls):∀ a i l s,ev P C (.attr a i) l s=(ev P C a l s).bind fun x s=>getAttr x i s:=by intros; rfl
theorem ev_call (P:Prog) (C:Calls):∀ f es l s,ev P C (.call f es) l s=(evL P C es l s).bind fun vs s=>C f vs s:=by intros; rfl
theorem ev_meth (P:Prog) (C:Calls):∀ a m es l s,ev P C (.meth a m es) l s=(ev P C a l s).bind fun x s=>match methOf P x m s with
  | some f=>(evL P C es l s).bind fun vs s=>C f (x :: vs) s
  | Option.none=>.stuck:=by intros; rfl
theorem ev_new (P:Prog) (C:Calls):∀ c es l s,ev P C (.new c es) l s=(evL P C es l s).bind fun vs s=>makeInst P C c vs s:=by intros; rfl
theorem ev_isinst (P:Prog) (C:Calls):∀ a ks l s,ev P C (.isinst a ks) l s=(ev P C a l s).bind fun x s=>okB s (isKinds P s x ks):=by intros; rfl
theorem ev_isX (P:Prog) (C:Calls):∀ a k l s,ev P C (.isX a k) l s=(ev P C a l s).bind fun v s=>match v with
  | .exc c=>if (P.excBase c).contains c then .ok (.bool ((P.excBase c).contains k)) s else .stuck
  | _=>.stuck:=by intros; rfl
theorem ev_prim (P:Prog) (C:Calls):∀ p es l s,ev P C (.prim p es) l s=(evL P C es l s).bind fun vs s=>prim p vs s:=by intros; rfl
theorem ev_listM (P:Prog) (C:Calls):∀ k a l s,ev P C (.listM k a) l s=(ev P C a l s).bind fun x s=>match seqOf s x with
  | some (_,vs)=>.ok (.ref (k,s.cnt k)) (s.new k (.list vs))
  | Option.none=>.stuck:=by intros; rfl
theorem ev_dictC (P:Prog) (C:Calls):∀ k a l s,ev P C (.dictC k a) l s=(ev P C a l s).bind fun x s=>match x with
  | .ref r=>match s.heap r with
   | some (.dict d)=>if d.length≤1000 then .ok (.ref (k,s.cnt k)) (s.new k (.dict d)) else .stuck
   | _=>.stuck
  | _=>.stuck:=by intros; rfl
theorem ev_bm (P:Prog) (C:Calls):∀ m a es l s,ev P C (.bm m a es) l s=(ev P C a l s).bind fun x s=>if bmOk m x s then (evL P C es l s).bind fun vs s=>bmeth m x vs s else .stuck:=by intros; rfl
theorem ev_comp (P:Prog) (C:Calls):∀ M slot range it cond elt l s,ev P C (.comp M slot range it cond elt) l s=(ev P C it l s).bind fun src s=>match itemsOf s range src with
  | some xs=>(compLoop s range src slot (evC P C cond) (ev P C elt) l [] xs s).bind fun vs s=>match M with
   | Option.none=>.ok (.lst vs) s
   | some k=>.ok (.ref (k,s.cnt k)) (s.new k (.list vs))
  | Option.none=>.stuck:=by intros; rfl
theorem evO_none (P:Prog) (C:Calls):∀ l s,evO P C Option.none l s=.ok Option.none s:=by intros; rfl
theorem evO_some (P:Prog) (C:Calls):∀ e l s,evO P C (some e) l s=(ev P C e l s).bind fun v s=>.ok (some v) s:=by intros; rfl
theorem evL_nil (P:Prog) (C:Calls):∀ l s,evL P C [] l s=.ok [] s:=by intros; rfl
theorem evL_cons (P:Prog) (C:Calls):∀ e r l s,evL P C (e :: r) l s=(ev P C e l s).bind fun v s=>(evL P C r l s).bind fun vs s=>.ok (v :: vs) s:=by intros; rfl
theorem evAnd_nil (P:Prog) (C:Calls):∀ l s,evAnd P C [] l s=.stuck:=by intros; rfl
theorem evAnd_one (P:Prog) (C:Calls):∀ e l s,evAnd P C [e] l s=ev P C e l s:=by intros; rfl
theorem evAnd_cons (P:Prog) (C:Calls):∀ e e' r l s,evAnd P C (e :: e' :: r) l s=(ev P C e l s).bind fun v s=>(truth v s).bind fun b s=>if b then evAnd P C (e' :: r) l s else .ok v s:=by intros; rfl
theorem evOr_nil (P:Prog) (C:Calls):∀ l s,evOr P C [] l s=.stuck:=by intros; rfl
theorem evOr_one (P:Prog) (C:Calls):∀ e l s,evOr P C [e] l s=ev P C e l s:=by intros; rfl
theorem evOr_cons (P:Prog) (C:Calls):∀ e e' r l s,evOr P C (e :: e' :: r) l s=(ev P C e l s).bind fun v s=>(truth v s).bind fun b s=>if b then .ok v s else evOr P C (e' :: r) l s:=by intros; rfl
theorem ex_expr (P:Prog) (C:Calls) (n:Nat):∀ e l s,ex P C n (.expr e) l s=(ev P C e l s).bnd fun _ s=>.ok (.next,l) s:=by intros; rfl
theorem ex_assign (P:Prog) (C:Calls) (n:Nat):∀ i e l s,ex P C n (.assign i e) l s=(ev P C e l s).bnd fun v s=>if i < l.length then .ok (.next,l.set i (some v)) s else .stuck:=by intros; rfl
theorem ex_setattr (P:Prog) (C:Calls) (n:Nat):∀ a i e l s,ex P C n (.setattr a i e) l s=(ev P C e l s).bnd fun v s=>(ev P C a l s).bnd fun x s=>(setAttr x i v s).bnd fun _ s=>.ok (.next,l) s:=by intros; rfl
theorem ex_setitem (P:Prog) (C:Calls) (n:Nat):∀ a b e l s,ex P C n (.setitem a b e) l s=(ev P C e l s).bnd fun v s=>(ev P C a l s).bnd fun x s=>(ev P C b l s).bnd fun y s=>(setItem x y v s).bnd fun _ s=>.ok (.next,l) s:=by intros; rfl
theorem ex_ite (P:Prog) (C:Calls) (n:Nat):∀ c b1 b2 l s,ex P C n (.ite c b1 b2) l s=(ev P C c l s).bnd fun v s=>(truth v s).bnd fun b s=>if b then exs P C n b1 l s else exs P C n b2 l s:=by intros; rfl
theorem ex_for (P:Prog) (C:Calls) (n:Nat):∀ ts range it body l s,ex P C n (.for_ ts range it body) l s=(ev P C it l s).bnd fun src s=>match itemsOf s range src with
  | some xs=>if forOk ts range src s then forLoop s range src (setTT P C ts) (exs P C n body) xs l s else .stuck
  | Option.none=>.stuck:=by intros; rfl
theorem ex_while (P:Prog) (C:Calls) (n:Nat):∀ c body l s,ex P C n (.while_ c body) l s=whileLoop (ev P C c) (exs P C n body) n l s:=by intros; rfl
theorem ex_ret (P:Prog) (C:Calls) (n:Nat):∀ e l s,ex P C n (.ret e) l s=match e with
  | some e=>(ev P C e l s).bnd fun v s=>.ok (.ret v,l) s
  | Option.none=>.ok (.ret .none,l) s:=by intros; rfl
theorem ex_raise (P:Prog) (C:Calls) (n:Nat):∀ c l s,ex P C n (.raise c) l s=.exc c s:=by intros; rfl
theorem ex_exprX (P:Prog) (C:Calls) (n:Nat):∀ e l s,ex P C n (.exprX e) l s=(evQ P C e l s).bind fun _ s=>.ok (.next,l) s:=by intros; rfl
theorem ex_tryX (P:Prog) (C:Calls) (n:Nat):∀ e c i b l s,ex P C n (.tryX e c i b) l s=landOn P (exs P C n b) c i l (evQ P C e l s):=by intros; rfl
theorem evQ_call (P:Prog) (C:Calls):∀ f es l s,evQ P C (.call f es) l s=(evL P C es l s).bnd fun vs s=>C f vs s:=by intros; rfl
theorem evQ_meth (P:Prog) (C:Calls):∀ a m es l s,evQ P C (.meth a m es) l s=(ev P C a l s).bnd fun x s=>match methOf P x m s with
  | some f=>(evL P C es l s).bnd fun vs s=>C f (x :: vs) s
  | Option.none=>.stuck:=by intros; rfl
theorem evQ_new (P:Prog) (C:Calls):∀ c es l s,evQ P C (.new c es) l s=(evL P C es l s).bnd fun vs s=>makeInst P C c vs s:=by intros; rfl
theorem exs_nil (P:Prog) (C:Calls) (n:Nat):∀ l s,exs P C n [] l s=.ok (.next,l) s:=by intros; rfl
theorem exs_cons (P:Prog) (C:Calls) (n:Nat):∀ st r l s,exs P C n (st :: r) l s=(ex P C n st l s).bind fun p s=>match p.1 with
  | .next=>exs P C n r p.2 s
  | .ret v=>.ok (.ret v,p.2) s:=by intros; rfl
theorem byQ {A:Prop} (h:∀ Q:Prop,(A→Q)→Q):A:=h A id
end Mine
end
section
namespace Mine
open PySem PySem.W PyProof.Rows
set_option genCtorIdx false in
structure Tie where
 ρ:Lbl→Option Addr
 δ:Lbl→Option Addr
 pv:Addr→Prop
 wr:Nat
 st:List Env
noncomputable def Tie.Own (t:Tie) (a:Addr):Prop:=∃ l,t.ρ l=some a∨t.δ l=some a
noncomputable def Tie.Fr (t:Tie) (a:Addr):Prop:=t.pv a∧∃ e,e∈t.st∧e.frame=some a
noncomputable def Tie.Avoid (t:Tie) (a:Addr):Prop:=t.Own a∨t.pv a
set_option genCtorIdx false in
structure Tie.Le (t t':Tie):Prop where
 ρ:∀ l a,t.ρ l=some a→t'.ρ l=some a
 δ:∀ l a,t.δ l=some a→t'.δ l=some a
 pv:t'.pv=t.pv
 wr:t.wr≤t'.wr
 st:t'.st=t.st
theorem Tie.Le.refl (t:Tie):t.Le t:=⟨fun _ _ e=>e,fun _ _ e=>e,rfl,Nat.le_refl _,rfl⟩
theorem Tie.Le.fr {t t':Tie} (x:t.Le t') {a:Addr} (f:t'.Fr a):t.Fr a:=⟨x.pv ▸ f.1,x.st ▸ f.2⟩
theorem Tie.Le.fr' {t t':Tie} (x:t.Le t') {a:Addr} (f:t.Fr a):t'.Fr a:=⟨x.pv ▸ f.1,x.st ▸ f.2⟩
theorem Tie.Le.trans {t t' t'':Tie} (x:t.Le t') (y:t'.Le t''):t.Le t'':=⟨fun l a e=>y.ρ l a (x.ρ l a e),fun l a e=>y.δ l a (x.δ l a e),y.pv.trans x.pv,Nat.le_trans x.wr y.wr,y.st.trans x.st⟩
theorem Tie.Le.own {t t':Tie} (x:t.Le t') {a:Addr} (o:t.Own a):t'.Own a:=by
 obtain ⟨l,e | e⟩:=o
 ·exact ⟨l,.inl (x.ρ l a e)⟩
 ·exact ⟨l,.inr (x.δ l a e)⟩
noncomputable def PL (h:Heap) (a:Addr) (vs:Array Value):Prop:=∃ n,h.get? a=some { cls:=.type "list",data:=.seq vs n }
noncomputable def PT (h:Heap) (a:Addr) (vs:Array Value):Prop:=∃ n,h.get? a=some { cls:=.type "tuple",data:=.seq vs n }
theorem PL.isList {h:Heap}{a:Addr}{vs:Array Value} (x:PL h a vs):h.IsList a vs:=let ⟨n,e⟩:=x; ⟨_,e,rfl,n,rfl⟩
theorem PT.isTuple {h:Heap}{a:Addr}{vs:Array Value} (x:PT h a vs):h.IsTuple a vs:=let ⟨n,e⟩:=x; ⟨_,e,rfl,n,rfl⟩
theorem PT.isTup {h:Heap}{a:Addr}{vs:Array Value} (x:PT h a vs):IsTup h a vs:=let ⟨n,e⟩:=x; ⟨_,e,rfl,n,rfl⟩
mutual
noncomputable def VRel (t:Tie) (h:Heap):V→Value→Prop
 | .none,v=>v=.none
 | .bool b,v=>v=.bool b
 | .int i,v=>∃ k,v=.int i k
 | .str x,v=>∃ k,v=.str (Str.mk x.toArray) k
 | .tup l,v=>∃ a vs,v=.ref a∧PT h a vs∧¬ t.Avoid a∧l.length≤sizeMax∧VRels t h l vs.toList
 | .lst l,v=>∃ a vs,v=.ref a∧PL h a vs∧¬ t.Avoid a∧l.length≤sizeMax∧VRels t h l vs.toList
 | .ref l,v=>∃ a,v=.ref a∧t.ρ l=some a
 | .exc c,v=>∃ e o,v=.ref e∧h.get? e=some o∧o.cls=.ref c∧¬ t.Avoid e
noncomputable def VRels (t:Tie) (h:Heap):List V→List Value→Prop
 | [],vs=>vs=[]
 | x :: l,vs=>∃ v r,vs=v :: r∧VRel t h x v∧VRels t h l r
end
set_option genCtorIdx false in
structure Step (X:Addr→Prop) (t t':Tie) (s s':Shared):Prop where
 le:t.Le t'
 keepW:∀ a o,s.heap.get? a=some o→(t.Own a→t'.wr=t.wr)→¬ X a→¬ t.Fr a→s'.heap.get? a=some o
 slots:∀ a o,s.heap.get? a=some o→¬ t.Own a→¬ X a→t.Fr a→∃ sl,s'.heap.get? a=some { o with slots:=sl }
 new:∀ a,t'.Own a→t.Own a∨s.heap.get? a=none
 live:∀ a o,s.heap.get? a=some o→(s'.heap.get? a).isSome=true
 gens:s'.gens=s.gens
 os:s'.os=s.os
theorem Step.refl (X:Addr→Prop) (t:Tie) (s:Shared):Step X t t s s:=⟨.refl t,fun _ _ e _ _ _=>e,fun _ o e _ _ _=>⟨o.slots,e⟩,fun _ o=>.inl o,fun _ _ e=>by rw [e]; rfl,rfl,rfl⟩
theorem Step.keep {X:Addr→Prop}{t t':Tie}{s s':Shared} (x:Step X t t' s s') (a:Addr) (o:Obj) (e:s.heap.get? a=some o) (n:¬ t.Own a) (nx:¬ X a) (nf:¬ t.Fr a):s'.heap.get? a=some o:=x.keepW a o e (fun q=>(n q).elim) nx nf
theorem Step.trans {X:Addr→Prop}{t t' t'':Tie}{s s' s'':Shared} (x:Step X t t' s s') (y:Step X t' t'' s' s''):Step X t t'' s s'' where
 le:=x.le.trans y.le
 keepW a o e n nx nf:=by
  have sq:t.Own a→t'.wr=t.wr∧t''.wr=t'.wr:=fun q=>by have:=n q; have:=x.le.wr; have:=y.le.wr; lia
  exact y.keepW a o (x.keepW a o e (fun q=>(sq q).1) nx nf) (fun q=>(x.new a q).elim (fun q=>(sq q).2) fun z=>by rw [e] at z; cases z) nx fun q=>nf (x.le.fr q)
 slots a o e n nx f:=by
  obtain ⟨sl,e1⟩:=x.slots a o e n nx f
  obtain ⟨sl2,e2⟩:=y.slots a _ e1 (fun q=>(x.new a q).elim n fun z=>by rw [e] at z; cases z) nx (x.le.fr' f)
  exact ⟨sl2,e2⟩
 new a o:=(y.new a o).elim (x.new a) fun z=>by
  cases q:s.heap.get? a with
  | none=>exact .inr rfl
  | some ob =>
   have:=x.live a ob q
   rw [z] at this; exact no_ft this
 live a o e:=by
  have:=x.live a o e
  obtain ⟨o',e'⟩:=Option.isSome_iff_exists.mp this
  exact y.live a o' e'
 gens:=y.gens.trans x.gens
 os:=y.os.trans x.os
theorem Step.mono {X Y:Addr→Prop}{t t':Tie}{s s':Shared} (x:Step X t t' s s') (xy:∀ a,X a→Y a):Step Y t t' s s':=⟨x.le,fun a o e n ny=>x.keepW a o e n fun q=>ny (xy a q),fun a o e n ny=>x.slots a o e n fun q=>ny (xy a q),x.new,x.live,x.gens,x.os⟩
noncomputable def noX:Addr→Prop:=fun _=>False
mutual
theorem VRel.map {t t':Tie}{h h':Heap} (hρ:∀ l a,t.ρ l=some a→t'.ρ l=some a) (k:∀ a o,¬ t.Avoid a→h.get? a=some o→h'.get? a=some o∧¬ t'.Avoid a):∀ (x:V) {v:Value},VRel t h x v→VRel t' h' x v
 | .none,_,e=>e
 | .bool _,_,e=>e
 | .int _,_,e=>e
 | .str _,_,e=>e
 | .tup l,_,⟨a,vs,e,⟨n,ho⟩,na,sz,r⟩=>⟨a,vs,e,⟨n,(k a _ na ho).1⟩,(k a _ na ho).2,sz,VRels.map hρ k l r⟩
 | .lst l,_,⟨a,vs,e,⟨n,ho⟩,na,sz,r⟩=>⟨a,vs,e,⟨n,(k a _ na ho).1⟩,(k a _ na ho).2,sz,VRels.map hρ k l r⟩
 | .ref l,_,⟨a,e,r⟩=>⟨a,e,hρ l a r⟩
 | .exc _,_,⟨e,o,h1,h2,h3,h4⟩=>⟨e,o,h1,(k e o h4 h2).1,h3,(k e o h4 h2).2⟩
theorem VRels.map {t t':Tie}{h h':Heap} (hρ:∀ l a,t.ρ l=some a→t'.ρ l=some a) (k:∀ a o,¬ t.Avoid a→h.get? a=some o→h'.get? a=some o∧¬ t'.Avoid a):∀ (l:List V) {vs:List Value},VRels t h l vs→VRels t' h' l vs
 | [],_,e=>e
 | x :: l,_,⟨v,r,e,a,b⟩=>⟨v,r,e,VRel.map hρ k x a,VRels.map hρ k l b⟩
end
theorem Step.val {X:Addr→Prop}{t t':Tie}{σ σ':Shared} (s:Step X t t' σ σ') (xp:∀ a,X a→t.pv a) (a:Addr) (o:Obj) (na:¬ t.Avoid a) (ho:σ.heap.get? a=some o):σ'.heap.get? a=some o∧¬ t'.Avoid a :=
 ⟨s.keep a o ho (fun q=>na (.inl q)) (fun q=>na (.inr (xp a q))) (fun q=>na (.inr q.1)),fun q=>q.elim (fun q=>(s.new a q).elim (fun q=>na (.inl q)) fun z=>by rw [ho] at z; cases z) (fun q=>na (.inr (by rw [s.le.pv] at q; exact q)))⟩
theorem VRel.step {X:Addr→Prop}{t t':Tie}{σ σ':Shared} (s:Step X t t' σ σ') (xp:∀ a,X a→t.pv a) (x:V) {v:Value} (r:VRel t σ.heap x v):VRel t' σ'.heap x v:=VRel.map s.le.ρ (s.val xp) x r
theorem VRels.step {X:Addr→Prop}{t t':Tie}{σ σ':Shared} (s:Step X t t' σ σ') (xp:∀ a,X a→t.pv a) (l:List V) {vs:List Value} (r:VRels t σ.heap l vs):VRels t' σ'.heap l vs:=VRels.map s.le.ρ (s.val xp) l r
noncomputable def Tie.hideS (t:Tie) (P:Addr→Prop) (l:List Env):Tie:={ t with pv:=fun a=>t.pv a∨P a,st:=l }
noncomputable abbrev Tie.hide (t:Tie) (P:Addr→Prop):Tie:=t.hideS P t.st
theorem Tie.hid {t:Tie}{h:Heap}{P:Addr→Prop}{l:List Env} (np:∀ a,P a→h.get? a=none) (a:Addr) (o:Obj) (na:¬ t.Avoid a) (ho:h.get? a=some o):h.get? a=some o∧¬ (t.hideS P l).Avoid a :=
 ⟨ho,fun q=>Or.elim q (fun q=>na (.inl q)) fun q=>Or.elim q (fun q=>na (.inr q)) fun q=>absurd ((np a q).symm.trans ho) nofun⟩
theorem VRel.hide {t:Tie}{h:Heap}{P:Addr→Prop}{l:List Env} (np:∀ a,P a→h.get? a=none) (x:V) {v:Value} (r:VRel t h x v):VRel (t.hideS P l) h x v:=VRel.map (t:=t) (t':=t.hideS P l) (fun _ _ e=>e) (Tie.hid np) x r
theorem VRels.hide {t:Tie}{h:Heap}{P:Addr→Prop}{k:List Env} (np:∀ a,P a→h.get? a=none) (l:List V) {vs:List Value} (r:VRels t h l vs):VRels (t.hideS P k) h l vs:=VRels.map (t:=t) (t':=t.hideS P k) (fun _ _ e=>e) (Tie.hid np) l r
theorem VRels.length {t:Tie}{h:Heap}:∀ {l:List V}{vs:List Value},VRels t h l vs→vs.length=l.length
 | [],_,e=>by cases e; rfl
 | _ :: l,_,⟨v,r,e,_,b⟩=>by subst e; simp [VRels.length b]
theorem VRels.append {t:Tie}{h:Heap}:∀ {l m:List V}{vs ws:List Value},VRels t h l vs→VRels t h m ws→VRels t h (l ++ m) (vs ++ ws)
 | [],_,_,_,e,b=>by cases e; exact b
 | _ :: _,_,_,_,⟨v,r,e,a,c⟩,b=>by subst e; exact ⟨v,_,rfl,a,VRels.append c b⟩
theorem VRels.get {t:Tie}{h:Heap}:∀ {l:List V}{vs:List Value}{i:Nat}{x:V},VRels t h l vs→l[i]?=some x→∃ v,vs[i]?=some v∧VRel t h x v
 | x :: l,_,0,_,⟨v,r,e,a,b⟩,q=>by subst e; cases q; exact ⟨v,rfl,a⟩
 | x :: l,_,i + 1,_,⟨v,r,e,a,b⟩,q=>by subst e; exact VRels.get (l:=l) (vs:=r) b q
theorem VRels.take {t:Tie}{h:Heap}:∀ {l:List V}{vs:List Value} (n:Nat),VRels t h l vs→VRels t h (l.take n) (vs.take n)
 | [],_,n,e=>by cases e; simp [VRels]
 | x :: l,_,0,_=>rfl
 | x :: l,_,n + 1,⟨v,r,e,a,b⟩=>by subst e; exact ⟨v,_,rfl,a,VRels.take n b⟩
theorem VRels.drop {t:Tie}{h:Heap}:∀ {l:List V}{vs:List Value} (n:Nat),VRels t h l vs→VRels t h (l.drop n) (vs.drop n)
 | [],_,n,e=>by cases e; simp [VRels]
 | x :: l,vs,0,r=>r
 | x :: l,_,n + 1,⟨v,r,e,a,b⟩=>by subst e; exact VRels.drop n b
theorem VRels.set {t:Tie}{h:Heap}:∀ {l:List V}{vs:List Value} (i:Nat) {x:V}{v:Value},VRels t h l vs→VRel t h x v→VRels t h (l.set i x) (vs.set i v)
 | [],_,i,_,_,e,_=>by cases e; simp [VRels]
 | y :: l,_,0,_,_,⟨v,r,e,a,b⟩,q=>by subst e; exact ⟨_,_,rfl,q,b⟩
 | y :: l,_,i + 1,_,_,⟨v,r,e,a,b⟩,q=>by subst e; exact ⟨v,_,rfl,a,VRels.set i b q⟩
theorem VRels.eraseIdx {t:Tie}{h:Heap}:∀ {l:List V}{vs:List Value} (i:Nat),VRels t h l vs→VRels t h (l.eraseIdx i) (vs.eraseIdx i)
 | [],_,i,e=>by cases e; simp [VRels]
 | y :: l,_,0,⟨v,r,e,a,b⟩=>by subst e; exact b
 | y :: l,_,i + 1,⟨v,r,e,a,b⟩=>by subst e; exact ⟨v,_,rfl,a,VRels.eraseIdx i b⟩
end Mine
end
section
namespace Mine
end Mine
end
section
namespace Mine
open PySem PySem.W PyProof.Rows
set_option genCtorIdx false in
structure Gd where
 prog:Program
 w:World
 K:Frag
 mg:PySem.Str→Option Value
 mb:PySem.Str→Option Value
 h₀:Heap
 P:Prog
 fa:Nat→Option Addr
 ca:Nat→Option Addr
 an:Nat→PySem.Str
noncomputable abbrev Gd.M (G:Gd):Model:=model G.prog G.w
noncomputable abbrev toStr (x:List Nat):PySem.Str:=Str.mk x.toArray
noncomputable def DRel (t:Tie) (h:Heap):List (V×V)→List (PySem.Str×Value)→Prop
 | [],kvs=>kvs=[]
 | (k,v) :: r,kvs=>∃ x y rest,k=.str x∧kvs=(toStr x,y) :: rest∧VRel t h v y∧DRel t h r rest
noncomputable def ARel (G:Gd) (t:Tie) (h:Heap) (as:List (Nat×V)) (m:PySem.Str→Option Value):Prop :=
 (∀ i v,afind i as=some v→∃ y,m (G.an i)=some y∧VRel t h v y)∧∀ x y,m x=some y→∃ i v,x=G.an i∧afind i as=some v
noncomputable def NsZ (h:Heap) (a:Addr) (m:PySem.Str→Option Value) (n:Nat):Prop :=
 ∃ o es ep,h.get? a=some o∧o.data=.dict es ep∧StrKeys es∧(∀ name,nsFind es name=m name)∧es.size≤n
theorem NsZ.ns {h:Heap}{a:Addr}{m:PySem.Str→Option Value}{n:Nat} (x:NsZ h a m n):h.Ns a m:=let ⟨o,es,ep,h1,h2,h3,h4,_⟩:=x; ⟨o,es,ep,h1,h2,h3,h4⟩
theorem wpAny_nsSetZ {M:Model}{A:Around}{E:Value→Shared→Prop}{s:Shared}{a:Addr}{m:PySem.Str→Option Value}{n:Nat}{name:PySem.Str}{v:Value}{Q:Unit→Shared→Prop} (hn:NsZ s.heap a m n)
  (h:∀ h',NsZ h' a (fun x=>if x=name then some v else m x) (if (m name).isSome then n else n + 1)→Heap.SameBut a s.heap h'→Q () { s with heap:=h',toks:=s.toks + 1 }) :
  wpAny M A (nsSet a name v) Q E s:=by
 obtain ⟨o,es,ep,ho,hd,hk,hm,hz⟩:=hn
 have hany:es.any (·.refKey)=false:=by
  rw [Array.any_eq_false']; intro e he; obtain ⟨n,t,h⟩:=hk e he; simp [DictEntry.refKey,h]
 unfold nsSet
 refine wpAny_bind (wpAny_bind (wpAny_askSetting (wpAny_pure (wpAny_bind (wpAny_mkText (wpAny_bind (wpAny_loadPart (s:={ s with toks:=s.toks + 1 }) ho ?_)))))))
 rw [hd]
 dsimp only
 rw [aRefKeyMayBeTheName_at,hany,Bool.and_false]
 refine wpAny_updatePart (s:={ s with toks:=s.toks + 1 }) ho ?_
 refine h _ ?_ (Heap.SameBut.update ..)
 obtain ⟨c,d,dt,sl⟩:=o
 subst hd
 have hfind:=hm name
 unfold nsFind at hfind
 rw [findBy_of_findIdx?] at hfind
 cases hi:es.findIdx? (·.key.isStr name) with
 | some i =>
  have hlt:i < es.size:=(Array.findIdx?_eq_some_iff_getElem.mp hi).1
  have hsome:(m name).isSome=true:=by
   rw [← hfind,hi]; simp [hlt]
  have hif:(if (m name).isSome=true then n else n + 1)=n:=by rw [hsome]; rfl
  rw [hif]
  refine ⟨_,_,ep,Heap.get?_update_self _ ho (by simp only [Obj.putName_eq,Obj.putNameByArray,hi]; rfl),by simp only [Obj.putName_eq,Obj.putNameByArray,hi]; rfl,hk.modify _ _,fun x=>?_,by rw [Array.size_modify]; exact hz⟩
  show _=if x=name then some v else m x
  rw [← hm]; exact findBy_modify (fun n v=>v.isStr n) Value.isStr_inj es name x v i hi
 | none =>
  have hnone:(m name).isSome=false:=by rw [← hfind,hi]; rfl
  have hif:(if (m name).isSome=true then n else n + 1)=n + 1:=by rw [hnone]; rfl
  rw [hif]
  refine ⟨_,_,ep + 1,Heap.get?_update_self _ ho (by simp only [Obj.putName_eq,Obj.putNameByArray,hi]; rfl),by simp only [Obj.putName_eq,Obj.putNameByArray,hi]; rfl,hk.push _ _ _ _,fun x=>?_,by rw [Array.size_push]; lia⟩
  show _=if x=name then some v else m x
  rw [← hm]
  exact findBy_push (fun n v=>v.isStr n) es name x _ _ v (fun y=>by
   show (name == y)=decide (y=name)
   by_cases q:y=name
   ·subst q; simp
   ·have:¬ name=y:=fun z=>q z.symm
    simp [q,this]) hi
noncomputable def ObjOk (G:Gd) (t:Tie) (h:Heap) (l:Lbl):MObj→Prop
 | .list xs=>∃ a vs,t.ρ l=some a∧PL h a vs∧xs.length≤sizeMax∧VRels t h xs vs.toList
 | .dict d=>∃ a kvs,t.ρ l=some a∧h.DictOf (strKind G.prog G.w) a kvs∧DRel t h d kvs
 | .tdict _=>False
 | .inst c as=>∃ a d C m,t.ρ l=some a∧t.δ l=some d∧G.ca c=some C∧h.get? a=some (instObj C d)∧NsZ h d m as.length∧ARel G t h as m
set_option genCtorIdx false in
structure Rel (G:Gd) (t:Tie) (st:MS) (s:Shared):Prop where
 base:∀ b o,G.h₀.get? b=some o→s.heap.get? b=some o
 apart:∀ a,t.Avoid a→G.h₀.get? a=none
 live:∀ a,t.Avoid a→(s.heap.get? a).isSome=true
 pv:∀ a,t.pv a→¬ t.Own a
 injρ:∀ l l' a,t.ρ l=some a→t.ρ l'=some a→l=l'
 injδ:∀ l l' a,t.δ l=some a→t.δ l'=some a→l=l'
 two:∀ l l' a,t.ρ l=some a→t.δ l'=some a→False
 objs:∀ l o,st.heap l=some o→ObjOk G t s.heap l o
 cnt:∀ k i,st.cnt k≤i→t.ρ (k,i)=none∧t.δ (k,i)=none∧st.heap (k,i)=none
 sys:∀ l,t.ρ l≠some sysModules
 wr:t.wr=st.wr
theorem DRel.map {t t':Tie}{h h':Heap} (k:∀ (x:V) {v:Value},VRel t h x v→VRel t' h' x v):∀ {d:List (V×V)}{kvs:List (PySem.Str×Value)},DRel t h d kvs→DRel t' h' d kvs
 | [],_,e=>e
 | (_,v) :: _,_,⟨x,y,r,e1,e2,a,b⟩=>⟨x,y,r,e1,e2,k v a,DRel.map k b⟩
theorem DRel.step {X:Addr→Prop}{t t':Tie}{σ σ':Shared} (s:Step X t t' σ σ') (xp:∀ a,X a→t.pv a) {d:List (V×V)}{kvs:List (PySem.Str×Value)} (r:DRel t σ.heap d kvs):DRel t' σ'.heap d kvs:=DRel.map (VRel.step s xp) r
theorem ObjOk.map {G:Gd}{t t':Tie}{h h':Heap}{l:Lbl} (hρ:∀ l a,t.ρ l=some a→t'.ρ l=some a) (hδ:∀ l a,t.δ l=some a→t'.δ l=some a) (k:∀ a o,¬ t.Avoid a→h.get? a=some o→h'.get? a=some o∧¬ t'.Avoid a)
  (same:∀ a o,(t.ρ l=some a∨t.δ l=some a)→h.get? a=some o→h'.get? a=some o) {o:MObj} (r:ObjOk G t h l o):ObjOk G t' h' l o:=by
 cases o with
 | list=>obtain ⟨a,vs,e,⟨n,ho⟩,sz,b⟩:=r; exact ⟨a,vs,hρ l a e,⟨n,same a _ (.inl e) ho⟩,sz,VRels.map hρ k _ b⟩
 | dict=>obtain ⟨a,kvs,e,⟨o,es,ep,ho,r⟩,b⟩:=r; exact ⟨a,kvs,hρ l a e,⟨o,es,ep,same a o (.inl e) ho,r⟩,DRel.map (VRel.map hρ k) b⟩
 | tdict=>exact r.elim
 | inst =>
  obtain ⟨a,d,C,m,e,f,c,ho,⟨od,es,ep,hd,r⟩,b⟩:=r
  exact ⟨a,d,C,m,hρ l a e,hδ l d f,c,same a _ (.inl e) ho,⟨od,es,ep,same d _ (.inr f) hd,r⟩,fun i v e=>let ⟨y,e1,e2⟩:=b.1 i v e; ⟨y,e1,VRel.map hρ k v e2⟩,b.2⟩
theorem ObjOk.step {G:Gd}{X:Addr→Prop}{t t':Tie}{σ σ':Shared}{l:Lbl} (s:Step X t t' σ σ') (xp:∀ a,X a→t.pv a)
  (same:∀ a o,(t.ρ l=some a∨t.δ l=some a)→σ.heap.get? a=some o→σ'.heap.get? a=some o) {o:MObj} (r:ObjOk G t σ.heap l o):ObjOk G t' σ'.heap l o:=ObjOk.map s.le.ρ s.le.δ (s.val xp) same r
section
variable {G:Gd}{t:Tie}{st:MS}{s:Shared}
theorem Rel.fresh (R:Rel G t st s) {a:Addr} (e:s.heap.get? a=none):¬ t.Avoid a:=fun q=>by
 have:=R.live a q; rw [e] at this; exact no_ft this
theorem Step.grow (_R:Rel G t st s) {s':Shared} (hk:∀ b o,s.heap.get? b=some o→s'.heap.get? b=some o) (hg:s'.gens=s.gens) (ho:s'.os=s.os):Step noX t t s s' :=
 ⟨.refl t,fun a o e _ _ _=>hk a o e,fun a o e _ _ _=>⟨o.slots,hk a o e⟩,fun _ o=>.inl o,fun a o e=>by rw [hk a o e]; rfl,hg,ho⟩
theorem Rel.grow (R:Rel G t st s) {s':Shared} (hk:∀ b o,s.heap.get? b=some o→s'.heap.get? b=some o) (hg:s'.gens=s.gens) (ho:s'.os=s.os):Rel G t st s' where
 base b o e:=hk b o (R.base b o e)
 apart:=R.apart
 live a q:=by obtain ⟨o,e⟩:=Option.isSome_iff_exists.mp (R.live a q); rw [hk a o e]; rfl
 pv:=R.pv
 injρ:=R.injρ
 injδ:=R.injδ
 two:=R.two
 objs l o e:=(R.objs l o e).step (Step.grow R hk hg ho) (fun _ x=>x.elim) fun a o _ e=>hk a o e
 cnt:=R.cnt
 sys:=R.sys
 wr:=R.wr
theorem Rel.toks (R:Rel G t st s) (n:Nat):Rel G t st { s with toks:=n }:=R.grow (fun _ _ e=>e) rfl rfl
theorem Step.toks (X:Addr→Prop) (t:Tie) (s:Shared) (n:Nat):Step X t t s { s with toks:=n }:=⟨.refl t,fun _ _ e _ _ _=>e,fun _ o e _ _ _=>⟨o.slots,e⟩,fun _ o=>.inl o,fun _ _ e=>by show (s.heap.get? _).isSome=true; rw [e]; rfl,rfl,rfl⟩
noncomputable def Tie.tick (t:Tie):Tie:={ t with wr:=t.wr + 1 }
theorem Step.upd {a:Addr}{h':Heap}{tk:Nat} (own:t.Own a) (hl:(h'.get? a).isSome=true) (hs:Heap.SameBut a s.heap h'):Step noX t t.tick s { s with heap:=h',toks:=tk } :=
 ⟨⟨fun _ _ e=>e,fun _ _ e=>e,rfl,Nat.le_succ _,rfl⟩,fun b o e n _ _=>(hs.2 b fun (q:b=a)=>Nat.succ_ne_self _ (n (q ▸ own))).trans e,fun b o e n _ _=>⟨o.slots,(hs.2 b fun (q:b=a)=>n (q ▸ own)).trans e⟩,fun _ o=>.inl o,fun b o e=>by
  by_cases q:b=a
  ·subst q; exact hl
  ·show (h'.get? b).isSome=true; rw [hs.2 b q,e]; rfl,rfl,rfl⟩
theorem Rel.upd (R:Rel G t st s) {l:Lbl}{a:Addr}{h':Heap}{tk:Nat}{o:MObj} (own:t.ρ l=some a∨t.δ l=some a) (hl:(h'.get? a).isSome=true) (hs:Heap.SameBut a s.heap h') (hn:st.heap l≠none)
  (ho:ObjOk G t.tick h' l o):Rel G t.tick (st.put l o) { s with heap:=h',toks:=tk } where
 base b ob e:=(hs.2 b fun (q:b=a)=>by rw [q,R.apart a (.inl ⟨l,own⟩)] at e; exact no_none e).trans (R.base b ob e)
 apart:=R.apart
 live b q:=by
  by_cases z:b=a
  ·subst z; exact hl
  ·show (h'.get? b).isSome=true; rw [hs.2 b z]; exact R.live b q
 pv:=R.pv
 injρ:=R.injρ
 injδ:=R.injδ
 two:=R.two
 objs l' o' e:=by
  unfold MS.put at e
  dsimp only at e
  by_cases z:l'=l
  ·rw [if_pos z] at e; cases e; subst z; exact ho
  ·rw [if_neg z] at e
   refine (R.objs l' o' e).step (Step.upd ⟨l,own⟩ hl hs) (fun _ x=>x.elim) fun b ob hb eb=>(hs.2 b fun (q:b=a)=>z ?_).trans eb
   subst q
   rcases hb with hb | hb <;> rcases own with ow | ow
   ·exact R.injρ l' l b hb ow
   ·exact (R.two l' l b hb ow).elim
   ·exact (R.two l l' b ow hb).elim
   ·exact R.injδ l' l b hb ow
 cnt k i e:=by
  obtain ⟨c1,c2,c3⟩:=R.cnt k i e
  refine ⟨c1,c2,?_⟩
  show (if (k,i)=l then some o else st.heap (k,i))=none
  rw [if_neg (fun (q:(k,i)=l)=>hn (by rw [← q]; exact c3)),c3]
 sys:=R.sys
 wr:=congrArg Nat.succ R.wr
noncomputable def Tie.bind (t:Tie) (l:Lbl) (a:Addr) (d:Option Addr):Tie:={ t with ρ:=fun x=>if x=l then some a else t.ρ x,δ:=fun x=>if x=l then d else t.δ x }
theorem Step.bind {k:Nat}{a:Addr}{d:Option Addr}{s':Shared} (R:Rel G t st s) (hk:∀ b o,s.heap.get? b=some o→s'.heap.get? b=some o) (hg:s'.gens=s.gens) (ho:s'.os=s.os)
  (fa:s.heap.get? a=none) (fd:∀ x,d=some x→s.heap.get? x=none):Step noX t (t.bind (k,st.cnt k) a d) s s' where
 le:=⟨fun l b e=>by
   obtain ⟨c1,_,_⟩:=R.cnt k _ (Nat.le_refl _)
   show (if l=(k,st.cnt k) then some a else t.ρ l)=some b
   rw [if_neg (fun q=>by rw [q,c1] at e; exact no_none e)]; exact e,
  fun l b e=>by
   obtain ⟨_,c2,_⟩:=R.cnt k _ (Nat.le_refl _)
   show (if l=(k,st.cnt k) then d else t.δ l)=some b
   rw [if_neg (fun q=>by rw [q,c2] at e; exact no_none e)]; exact e,rfl,Nat.le_refl _,rfl⟩
 keepW b o e _ _ _:=hk b o e
 slots b o e _ _ _:=⟨o.slots,hk b o e⟩
 new b:=by
  rintro ⟨l,e | e⟩
  ·change (if l=(k,st.cnt k) then some a else t.ρ l)=some b at e
   split at e
   ·cases e; exact .inr fa
   ·exact .inl ⟨l,.inl e⟩
  ·change (if l=(k,st.cnt k) then d else t.δ l)=some b at e
   split at e
   ·exact .inr (fd b e)
   ·exact .inl ⟨l,.inr e⟩
 live b o e:=by rw [hk b o e]; rfl
 gens:=hg
 os:=ho
theorem Rel.bind {k:Nat}{a:Addr}{d:Option Addr}{s':Shared}{o:MObj} (R:Rel G t st s) (hk:∀ b o,s.heap.get? b=some o→s'.heap.get? b=some o) (hg:s'.gens=s.gens) (ho:s'.os=s.os)
  (fa:s.heap.get? a=none) (fd:∀ x,d=some x→s.heap.get? x=none∧x≠a∧(s'.heap.get? x).isSome=true) (la:(s'.heap.get? a).isSome=true) (hsys:a≠sysModules)
  (hO:ObjOk G (t.bind (k,st.cnt k) a d) s'.heap (k,st.cnt k) o):Rel G (t.bind (k,st.cnt k) a d) (st.new k o) s':=by
 have S:=Step.bind (k:=k) (d:=d) R hk hg ho fa fun x e=>(fd x e).1
 have c:=R.cnt k _ (Nat.le_refl _)
 have nr:∀ {l:Lbl}{b:Addr},(t.bind (k,st.cnt k) a d).ρ l=some b→(l=(k,st.cnt k)∧b=a)∨(l≠(k,st.cnt k)∧t.ρ l=some b):=fun {l b} e=>by
  change (if l=(k,st.cnt k) then some a else t.ρ l)=some b at e
  split at e
  ·rename_i q; cases e; exact .inl ⟨q,rfl⟩
  ·rename_i q; exact .inr ⟨q,e⟩
 have nd:∀ {l:Lbl}{b:Addr},(t.bind (k,st.cnt k) a d).δ l=some b→(l=(k,st.cnt k)∧d=some b)∨(l≠(k,st.cnt k)∧t.δ l=some b):=fun {l b} e=>by
  change (if l=(k,st.cnt k) then d else t.δ l)=some b at e
  split at e
  ·rename_i q; exact .inl ⟨q,e⟩
  ·rename_i q; exact .inr ⟨q,e⟩
 have na:¬ t.Avoid a:=R.fresh fa
 have nx:∀ x,d=some x→¬ t.Avoid x:=fun x e=>R.fresh (fd x e).1
 refine ⟨fun b ob e=>hk b ob (R.base b ob e),?_,?_,?_,?_,?_,?_,?_,?_,fun l e=>by rcases nr e with ⟨_,z⟩ | ⟨_,z⟩; exact hsys z.symm; exact R.sys l z,R.wr⟩
 ·rintro b (⟨l,e | e⟩ | e)
  ·rcases nr e with ⟨_,rfl⟩ | ⟨_,e⟩
   ·cases q:G.h₀.get? b with
    | none=>rfl
    | some ob=>rw [R.base b ob q] at fa; cases fa
   ·exact R.apart b (.inl ⟨l,.inl e⟩)
  ·rcases nd e with ⟨_,e⟩ | ⟨_,e⟩
   ·cases q:G.h₀.get? b with
    | none=>rfl
    | some ob=>have:=(fd b e).1; rw [R.base b ob q] at this; cases this
   ·exact R.apart b (.inl ⟨l,.inr e⟩)
  ·exact R.apart b (.inr e)
 ·rintro b (⟨l,e | e⟩ | e)
  ·rcases nr e with ⟨_,rfl⟩ | ⟨_,e⟩
   ·exact la
   ·obtain ⟨ob,q⟩:=Option.isSome_iff_exists.mp (R.live b (.inl ⟨l,.inl e⟩)); rw [hk b ob q]; rfl
  ·rcases nd e with ⟨_,e⟩ | ⟨_,e⟩
   ·exact (fd b e).2.2
   ·obtain ⟨ob,q⟩:=Option.isSome_iff_exists.mp (R.live b (.inl ⟨l,.inr e⟩)); rw [hk b ob q]; rfl
  ·obtain ⟨ob,q⟩:=Option.isSome_iff_exists.mp (R.live b (.inr e)); rw [hk b ob q]; rfl
 ·rintro b p ⟨l,e | e⟩
  ·rcases nr e with ⟨_,rfl⟩ | ⟨_,e⟩
   ·exact na (.inr p)
   ·exact R.pv b p ⟨l,.inl e⟩
  ·rcases nd e with ⟨_,e⟩ | ⟨_,e⟩
   ·exact nx b e (.inr p)
   ·exact R.pv b p ⟨l,.inr e⟩
 ·intro l l' b e e'
  rcases nr e with ⟨q1,z1⟩ | ⟨_,e1⟩ <;> rcases nr e' with ⟨q,z⟩ | ⟨_,e2⟩
  ·exact q1.trans q.symm
  ·exact (na (.inl ⟨l',.inl (z1 ▸ e2)⟩)).elim
  ·exact (na (.inl ⟨l,.inl (z ▸ e1)⟩)).elim
  ·exact R.injρ l l' b e1 e2
 ·intro l l' b e e'
  rcases nd e with ⟨q1,z1⟩ | ⟨_,e1⟩ <;> rcases nd e' with ⟨q,z⟩ | ⟨_,e2⟩
  ·exact q1.trans q.symm
  ·exact (nx b z1 (.inl ⟨l',.inr e2⟩)).elim
  ·exact (nx b z (.inl ⟨l,.inr e1⟩)).elim
  ·exact R.injδ l l' b e1 e2
 ·intro l l' b e e'
  rcases nr e with ⟨q1,z1⟩ | ⟨_,e1⟩ <;> rcases nd e' with ⟨q,z⟩ | ⟨_,e2⟩
  ·exact (fd b z).2.1 z1
  ·exact na (.inl ⟨l',.inr (z1 ▸ e2)⟩)
  ·exact nx b z (.inl ⟨l,.inl e1⟩)
  ·exact R.two l l' b e1 e2
 ·intro l o' e
  change (if l=(k,st.cnt k) then some o else st.heap l)=some o' at e
  split at e
  ·rename_i q; cases e; subst q; exact hO
  ·exact (R.objs l o' e).step S (fun _ x=>x.elim) fun b ob _ e=>hk b ob e
 ·intro k' i e
  change (if k'=k then st.cnt k + 1 else st.cnt k')≤i at e
  have ne:(k',i)≠(k,st.cnt k):=fun q=>by
   cases q; rw [if_pos rfl] at e; lia
  have le:st.cnt k'≤i:=by
   by_cases q:k'=k
   ·subst q; rw [if_pos rfl] at e; lia
   ·rw [if_neg q] at e; exact e
  obtain ⟨c1,c2,c3⟩:=R.cnt k' i le
  refine ⟨?_,?_,?_⟩
  ·show (if (k',i)=(k,st.cnt k) then some a else t.ρ (k',i))=none
   rw [if_neg ne]; exact c1
  ·show (if (k',i)=(k,st.cnt k) then d else t.δ (k',i))=none
   rw [if_neg ne]; exact c2
  ·show (if (k',i)=(k,st.cnt k) then some o else st.heap (k',i))=none
   rw [if_neg ne]; exact c3
end
end Mine
end
section
namespace Mine
open PySem PySem.W PyProof.Rows
set_option genCtorIdx false in
structure Names where
 fn:Nat→PySem.Str
 cls:Nat→PySem.Str
 meth:Nat→PySem.Str
 attr:Nat→PySem.Str
 exc:Nat→PySem.Str
 gi:List (PySem.Str×Int)
 gs:List (PySem.Str×List Nat)
 xs:List (PySem.Str×Nat)
 xf:Nat→Bool
 xm:Nat→Bool
 qf:Nat→Bool
noncomputable abbrev Sc:=List (PySem.Str×NameKind)
noncomputable abbrev Gam:=List (Option PySem.Str)
noncomputable def glob (sc:Sc) (x:PySem.Str):Bool:=sc.lookup x == some .globalImplicit && x != ("__debug__":PySem.Str)
noncomputable def kindName:Kind→Option PySem.Str
 | .int=>some "int"
 | .bool=>some "bool"
 | .str=>some "str"
 | .list=>some "list"
 | .tuple=>some "tuple"
 | .valueError=>some "ValueError"
 | .cls _=>none
noncomputable def chkKind (N:Names) (sc:Sc) (k:Kind) (y:PySem.Expr):Bool:=match y with
 | .Name x _=>kindName k == some x && glob sc x
 | _=>false
noncomputable def chkKinds (N:Names) (sc:Sc):List Kind→List PySem.Expr→Bool
 | [],[]=>true
 | k :: ks,e :: es=>chkKind N sc k e && chkKinds N sc ks es
 | _,_=>false
noncomputable def opOf:Bop→Operator
 | .add=>.Add | .sub=>.Sub | .mul=>.Mult | .fdiv=>.FloorDiv | .mod=>.Mod | .pow=>.Pow
noncomputable def cmpOf:Cop→CmpOp
 | .eq=>.Eq | .ne=>.NotEq | .lt=>.Lt | .le=>.LtE | .gt=>.Gt | .ge=>.GtE | .isin=>.In | .notin=>.NotIn
noncomputable def primName:Prim→PySem.Str
 | .len=>"len" | .max2=>"max" | .int1=>"int" | .sorted=>"sorted" | .tuple1=>"tuple" | .list1=>"list" | .all1=>"all"
noncomputable def bmName:Bm→PySem.Str
 | .append=>"append" | .extend=>"extend" | .pop=>"pop" | .insert=>"insert" | .count=>"count" | .get=>"get" | .join=>"join" | .upper=>"upper"
noncomputable def compSc (sc:Sc) (names:Sc):Sc:=names.map fun x=>if x.2 == .free && sc.lookup x.1 == some .cell then (x.1,.cell) else x
noncomputable def compGam (sc':Sc) (Γ:Gam) (slot:Nat) (x:PySem.Str):Gam:=(Γ.map fun y=>match y with | some n=>if sc'.lookup n == some .cell then some n else none | none=>none).set slot (some x)
noncomputable def compOk (sc:Sc) (scope:Scope) (slot:Nat) (Γ:Gam) (x:PySem.Str):Bool :=
 scope.kind == .function && decide (slot < Γ.length) && scope.names.lookup x == some .local &&
 scope.names.all (fun y=>y.2 != .cell && (y.2 != .local || scope.names.lookup y.1 == some .local) && (y.2 != .free || sc.lookup y.1 == some .cell))
noncomputable def isNot:CmpOp→Bool→Bool
 | .Is,b=>!b
 | .IsNot,b=>b
 | _,_=>false
end Mine
end
section
namespace Mine
open PySem PySem.W PyProof.Rows
set_option genCtorIdx false in
structure Dp where
 n:Nat
 q:Bool
set_option genCtorIdx false in
structure AOk (d:Dp) (A:Around):Prop where
 hd:d.q=true→A.handled=none
 dep:A.depth + 2 * d.n + 6≤recursionLimit
 un:A.units + 20 * d.n + 110≤cLine
set_option genCtorIdx false in
structure AC (d:Dp) (A:Around):Prop where
 hd:d.q=true→A.handled=none
 dep:A.depth + 2 * d.n + 5≤recursionLimit
 un:A.units + 20 * d.n + 105≤cLine
theorem AOk.ac {d:Dp}{A:Around} (h:AOk d A):AC d A:=⟨h.hd,by have:=h.dep; lia,by have:=h.un; lia⟩
set_option genCtorIdx false in
structure Stk (A:Around) (t:Tie) (h:Heap):Prop where
 fr:A.frames=some t.st
 ob:∀ e,e∈t.st→e.scope.kind≠.module∧∃ L o,e.frame=some L∧t.pv L∧h.get? L=some o∧∀ vs,o.data≠.fields vs
theorem Stk.step {G:Gd}{A:Around}{X:Addr→Prop}{t t':Tie}{st:MS}{s s':Shared} (K:Stk A t s.heap) (R:Rel G t st s) (S:Step X t t' s s') (hX:∀ a,X a→t.Fr a→∀ o,s'.heap.get? a=some o→∀ vs,o.data≠.fields vs):Stk A t' s'.heap where
 fr:=by rw [S.le.st]; exact K.fr
 ob e he:=by
  rw [S.le.st] at he
  obtain ⟨h1,L,o,h2,h3,h4,h5⟩:=K.ob e he
  refine ⟨h1,L,?_⟩
  by_cases x:X L
  ·obtain ⟨o',e'⟩:=Option.isSome_iff_exists.mp (S.live L o h4)
   exact ⟨o',h2,by rw [S.le.pv]; exact h3,e',hX L x ⟨h3,e,he,h2⟩ o' e'⟩
  ·obtain ⟨sl,e'⟩:=S.slots L o h4 (R.pv L h3) x ⟨h3,e,he,h2⟩
   exact ⟨_,h2,by rw [S.le.pv]; exact h3,e',h5⟩
theorem Stk.step0 {G:Gd}{A:Around}{t t':Tie}{st:MS}{s s':Shared} (K:Stk A t s.heap) (R:Rel G t st s) (S:Step noX t t' s s'):Stk A t' s'.heap:=K.step R S fun _ x=>x.elim
theorem Stk.fresh {A:Around}{t:Tie}{h:Heap} (K:Stk A t h) {P:Addr→Prop}{a:Addr} (np:h.get? a=none):¬ (t.hide P).Fr a:=fun f=>by
 obtain ⟨-,e,h1,h2⟩:=f
 obtain ⟨-,L,o,h3,-,h4,-⟩:=K.ob e h1
 rw [h3] at h2; cases h2
 rw [np] at h4; exact no_none h4
theorem Step.pvk {G:Gd}{X:Addr→Prop}{t t':Tie}{st:MS}{s s':Shared} (S:Step X t t' s s') (R:Rel G t st s) {a:Addr}{o:Obj} (hp:t.pv a) (nx:¬ X a) (e:s.heap.get? a=some o):∃ sl,s'.heap.get? a=some { o with slots:=sl }:=by
 by_cases f:t.Fr a
 ·exact S.slots a o e (R.pv a hp) nx f
 ·exact ⟨o.slots,S.keep a o e (R.pv a hp) nx f⟩
set_option genCtorIdx false in
structure FrOk (G:Gd) (A:Around) (t:Tie) (env:Env) (Γ:Gam) (loc:Loc) (s:Shared):Prop where
 sk:Stk A t s.heap
 fn:env.scope.kind=.function
 gl:env.globals=mainGlobals
 bl:env.builtins=builtinsNs
 pvl:t.pv env.locals
 pvc:∀ n c,env.cells.lookup n=some c→t.pv c
 apart:∀ n n' c,env.cells.lookup n=some c→env.cells.lookup n'=some c→n=n'
 ex:∃ m cm:PySem.Str→Option Value,s.heap.Ns env.locals m∧(∀ n c,env.cells.lookup n=some c→s.heap.IsCell c (cm n))∧(∀ x,env.kindOf x=some .cell→(env.cells.lookup x).isSome=true) ∧
  ∀ (i:Nat) (x:PySem.Str) (X:V),Γ[i]?=some (some x)→loc[i]?=some (some X)→∃ v,VRel t s.heap X v∧((env.kindOf x=some .local∧m x=some v)∨(env.kindOf x=some .cell∧cm x=some v))
theorem FrOk.step {G:Gd}{A:Around}{t t':Tie}{env:Env}{Γ:Gam}{loc:Loc}{st:MS}{s s':Shared} (F:FrOk G A t env Γ loc s) (R:Rel G t st s) (S:Step noX t t' s s'):FrOk G A t' env Γ loc s' where
 sk:=F.sk.step0 R S
 fn:=F.fn
 gl:=F.gl
 bl:=F.bl
 pvl:=by rw [S.le.pv]; exact F.pvl
 pvc n c h:=by rw [S.le.pv]; exact F.pvc n c h
 apart:=F.apart
 ex:=by
  obtain ⟨m,cm,⟨o,es,ep,ho,r⟩,hc,hz,hs⟩:=F.ex
  obtain ⟨sl,ho'⟩:=Step.pvk S R F.pvl (fun q=>q) ho
  refine ⟨m,cm,⟨_,es,ep,ho',r⟩,fun n c e=>?_,hz,fun i x X e1 e2=>?_⟩
  ·obtain ⟨oc,h1,h2⟩:=hc n c e
   obtain ⟨sl,h1'⟩:=Step.pvk S R (F.pvc n c e) (fun q=>q) h1
   exact ⟨_,h1',h2⟩
  ·obtain ⟨v,hv,r⟩:=hs i x X e1 e2
   exact ⟨v,VRel.step S (fun _ q=>q.elim) X hv,r⟩
noncomputable def Sim (G:Gd) (A:Around) {α:Type} (t:Tie) (s:Shared) (tree:Sem α) (st':MS) (rel:Tie→Shared→α→Prop):Prop :=
 ∀ (Q:α→Shared→Prop) (E:Value→Shared→Prop),(∀ v t' s',Step noX t t' s s'→Rel G t' st' s'→rel t' s' v→Q v s')→wpAny G.M A tree Q E s
noncomputable abbrev vrel (X:V):Tie→Shared→Value→Prop:=fun t s v=>VRel t s.heap X v
noncomputable abbrev vrels (X:List V):Tie→Shared→List Value→Prop:=fun t s v=>VRels t s.heap X v
theorem Sim.ok {G:Gd}{A:Around}{t:Tie}{s:Shared}{tree:Sem Value}{X Z:V}{st st':MS} (e:Res.ok X st=.ok Z st') (h:Sim G A t s tree st (vrel X)):Sim G A t s tree st' (vrel Z):=by cases e; exact h
theorem Res.bind_ok {α β:Type}{r:Res α}{f:α→MS→Res β}{b:β}{s':MS} (e:r.bind f=.ok b s'):∃ a s,r=.ok a s∧f a s=.ok b s':=by
 cases r with
 | ok a s=>exact ⟨a,s,rfl,e⟩
 | exc _ _=>cases e
 | stuck=>exact no_stuck e
theorem Res.bnd_ok {α β:Type}{r:Res α}{f:α→MS→Res β}{b:β}{s':MS} (e:r.bnd f=.ok b s'):∃ a s,r=.ok a s∧f a s=.ok b s':=by
 cases r with
 | ok a s=>exact ⟨a,s,rfl,e⟩
 | exc _ _=>exact no_stuck e
 | stuck=>exact no_stuck e
theorem Res.bnd_exc {α β:Type}{r:Res α}{f:α→MS→Res β}{c:Nat}{s':MS} (e:r.bnd f=.exc c s'):∃ a s,r=.ok a s∧f a s=.exc c s':=by
 cases r with
 | ok a s=>exact ⟨a,s,rfl,e⟩
 | exc _ _=>cases e
 | stuck=>cases e
theorem Res.bind_exc {α β:Type}{r:Res α}{f:α→MS→Res β}{c:Nat}{s':MS} (e:r.bind f=.exc c s'):r=.exc c s'∨∃ a s,r=.ok a s∧f a s=.exc c s':=by
 cases r with
 | ok a s=>exact .inr ⟨a,s,rfl,e⟩
 | exc _ _=>cases e; exact .inl rfl
 | stuck=>cases e
noncomputable def CallAt (G:Gd) (C:Calls) (d:Dp) (f:Nat):Prop :=
 ∀ vs st X st',C f vs st=.ok X st'→∀ A,AC d A→∃ a,G.fa f=some a∧∀ t s args,Stk A t s.heap→Rel G t st s→VRels t s.heap vs args→∀ (B:Result→Shared→Prop),
  (∀ v t' s',Step noX t t' s s'→Rel G t' st' s'→VRel t' s'.heap X v→B (.ok (.ret v)) s')→codeAny G.M A (.call (.ref a) ⟨args,[]⟩) B s
noncomputable def CallsOk (G:Gd) (C:Calls) (d:Dp):Prop:=∀ f,CallAt G C d f
set_option genCtorIdx false in
structure Gd.Ok (G:Gd) (N:Names):Prop where
 K:G.K.In G.h₀
 g:G.h₀.Ns mainGlobals G.mg
 b:G.h₀.Ns builtinsNs G.mb
 bi:∀ x:PySem.Str,x≠"__name__"→G.mb x=bootBuiltins x
 lim:G.h₀.NoLimit
 gi:∀ x i,N.gi.contains (x,i)=true→∃ k,G.mg x=some (.int i k)
 gs:∀ x l,N.gs.contains (x,l)=true→∃ k,G.mg x=some (.str (toStr l) k)
 an:∀ i j,G.an i=G.an j→i=j
 attr:N.attr=G.an
 none:∀ x,x∈(["len","max","int","sorted","tuple","list","all","isinstance","range","dict","bool","str","ValueError"]:List PySem.Str)→G.mg x=none
noncomputable def SimE (G:Gd) (C:Calls) (d:Dp) (sc:Sc) (Γ:Gam) (e:E) (ast:PySem.Expr):Prop :=
 ∀ t st s env loc X st' A,AOk d A→env.scope.names=sc→FrOk G A t env Γ loc s→Rel G t st s→ev G.P C e loc st=.ok X st'→Sim G A t s (eval ast env) st' (vrel X)
noncomputable def SimEs (G:Gd) (C:Calls) (d:Dp) (sc:Sc) (Γ:Gam) (l:List E) (m:List PySem.Expr):Prop :=
 ∀ pos t st s env loc Xs st' A,AOk d A→env.scope.names=sc→FrOk G A t env Γ loc s→Rel G t st s→evL G.P C l loc st=.ok Xs st'→Sim G A t s (spliced (backTo pos (starEach m env))) st' (vrels Xs)
section
variable {G:Gd}{N:Names}{C:Calls}{d:Dp}{sc:Sc}{Γ:Gam}
theorem Sim.here {A:Around}{α:Type}{t:Tie}{st:MS}{s:Shared}{tree:Sem α}{rel:Tie→Shared→α→Prop} (R:Rel G t st s)
  (h:∀ (Q:α→Shared→Prop) (E:Value→Shared→Prop),(∀ v tk,rel t { s with toks:=tk } v→Q v { s with toks:=tk })→wpAny G.M A tree Q E s):Sim G A t s tree st rel :=
 fun Q E k=>h Q E fun v tk r=>k v t _ (Step.toks _ t s tk) (R.toks tk) r
theorem sim_none {k:Nat}{pos:Pos}:SimE G C d sc Γ .none (.Constant .none k pos):=by
 intro t st s env loc X st' A hA hsc F R e
 cases e
 exact Sim.here R fun Q E k=>fun _ _ _=>k .none s.toks rfl
theorem sim_bool {b:Bool}{k:Nat}{pos:Pos}:SimE G C d sc Γ (.bool b) (.Constant (.bool b) k pos):=by
 intro t st s env loc X st' A hA hsc F R e
 cases e
 exact Sim.here R fun Q E k=>fun _ _ _=>k (.bool b) s.toks rfl
theorem sim_int {i:Int}{k:Nat}{pos:Pos}:SimE G C d sc Γ (.int i) (.Constant (.int i) k pos):=by
 intro t st s env loc X st' A hA hsc F R e
 cases e
 exact Sim.here R fun Q E k=>wpAny_Constant_int (k _ _ ⟨_,rfl⟩)
theorem sim_str {x:List Nat}{k:Nat}{pos:Pos}:SimE G C d sc Γ (.str x) (.Constant (.str (toStr x)) k pos):=by
 intro t st s env loc X st' A hA hsc F R e
 cases e
 exact Sim.here R fun Q E k=>wpAny_Constant_str (k _ _ ⟨_,rfl⟩)
theorem sim_loc {i:Nat}{x:PySem.Str}{pos:Pos} (hx:Γ[i]?=some (some x)) (hd:(x == ("__debug__":PySem.Str))=false):SimE G C d sc Γ (.loc i) (.Name x pos):=by
 intro t st s env loc X st' A hA hsc F R e
 rw [ev_loc] at e
 split at e
 ·rename_i v hv
  cases e
  obtain ⟨m,cm,hn,hc,hz,hs⟩:=F.ex
  obtain ⟨y,hy,r⟩:=hs i x X hx hv
  refine Sim.here R fun Q E k=>wpAny_Name ?_ hd
  rcases r with ⟨hk,hm⟩ | ⟨hk,hm⟩
  ·exact wpAny_loadName_local F.fn hk hn hm (k y s.toks hy)
  ·obtain ⟨c,hcl⟩:=Option.isSome_iff_exists.mp (hz x hk)
   exact wpAny_loadName_cell F.fn hk hcl (hm ▸ hc x c hcl) (k y s.toks hy)
 ·exact no_stuck e
theorem glob_name {A:Around}{t:Tie}{st:MS}{s:Shared}{env:Env}{loc:Loc}{x:PySem.Str}{pos:Pos}{v:Value}{Q:Value→Shared→Prop}{E:Value→Shared→Prop} (O:G.Ok N) (F:FrOk G A t env Γ loc s) (R:Rel G t st s)
  (hsc:env.scope.names=sc) (hg:glob sc x=true) (hm:G.mg x=some v) (h:Q v s):wpAny G.M A (eval (.Name x pos) env) Q E s:=by
 simp only [glob,Bool.and_eq_true,beq_iff_eq,bne_iff_ne,ne_eq] at hg
 refine Calls.Name_function_global F.fn (by unfold Env.kindOf; rw [hsc]; exact hg.1) (Calls.loadGlobal_global (by rw [F.gl]; exact O.g.keeps R.base) hm h) (by simpa using hg.2)
theorem glob_built {A:Around}{t:Tie}{st:MS}{s:Shared}{env:Env}{loc:Loc}{x:PySem.Str}{pos:Pos}{v:Value}{Q:Value→Shared→Prop}{E:Value→Shared→Prop} (O:G.Ok N) (F:FrOk G A t env Γ loc s) (R:Rel G t st s)
  (hsc:env.scope.names=sc) (hg:glob sc x=true) (hm:G.mg x=none) (hb:bootBuiltins x=some v) (hn:x≠"__name__") (h:Q v s):wpAny G.M A (eval (.Name x pos) env) Q E s:=by
 simp only [glob,Bool.and_eq_true,beq_iff_eq,bne_iff_ne,ne_eq] at hg
 refine Calls.Name_function_global F.fn (by unfold Env.kindOf; rw [hsc]; exact hg.1) (Calls.loadGlobal_builtin (by rw [F.gl]; exact O.g.keeps R.base) hm (by rw [F.bl]; exact O.b.keeps R.base) ((O.bi x hn).trans hb) h) (by simpa using hg.2)
theorem sim_gint (O:G.Ok N) {x:PySem.Str}{i:Int}{pos:Pos} (hg:glob sc x=true) (hi:N.gi.contains (x,i)=true):SimE G C d sc Γ (.gint x i) (.Name x pos):=by
 intro t st s env loc X st' A hA hsc F R e
 cases e
 obtain ⟨k',hk⟩:=O.gi x i hi
 exact Sim.here R fun Q E k=>glob_name O F R hsc hg hk (k _ s.toks ⟨_,rfl⟩)
theorem sim_gstr (O:G.Ok N) {x:PySem.Str}{l:List Nat}{pos:Pos} (hg:glob sc x=true) (hi:N.gs.contains (x,l)=true):SimE G C d sc Γ (.gstr x l) (.Name x pos):=by
 intro t st s env loc X st' A hA hsc F R e
 cases e
 obtain ⟨k',hk⟩:=O.gs x l hi
 exact Sim.here R fun Q E k=>glob_name O F R hsc hg hk (k _ s.toks ⟨_,rfl⟩)
theorem sim_es_nil:SimEs G C d sc Γ [] []:=by
 intro pos t st s env loc X st' A hA hsc F R e
 cases e
 exact fun Q E k=>Calls.spliced_nil (k [] t s (.refl _ _ _) R rfl)
theorem sim_es_cons {e:E}{l:List E}{x:PySem.Expr}{m:List PySem.Expr} (hx:isStarred x=false) (h1:SimE G C d sc Γ e x) (h2:SimEs G C d sc Γ l m):SimEs G C d sc Γ (e :: l) (x :: m):=by
 intro pos t st s env loc X st' A hA hsc F R q
 rw [evL_cons] at q
 obtain ⟨v,s1,q1,q⟩:=Res.bind_ok q
 obtain ⟨vs,s2,q2,q⟩:=Res.bind_ok q
 cases q
 intro Q E k
 have he:starEach (x :: m) env=(false,eval x env) :: starEach m env:=by cases x <;> first | rfl | exact no_tf hx
 refine wpAny_items_cons (h1 t st s env loc v s1 A hA hsc F R q1 _ _ fun y t1 σ1 S1 R1 r1=>?_) he
 refine h2 pos t1 s1 σ1 env loc vs st' A hA hsc (F.step R S1) R1 q2 _ _ fun ys t2 σ2 S2 R2 r2=>?_
 exact k _ t2 σ2 (S1.trans S2) R2 ⟨y,ys,rfl,VRel.step S2 (fun _ z=>z.elim) v r1,r2⟩
end
end Mine
end
section
namespace Mine
open PySem PySem.W PyProof.Rows PySem.SeqAt
section
variable {G:Gd}{t:Tie}{st:MS}{s:Shared}
theorem seqOf_real (R:Rel G t st s) {X:V}{v:Value}{k:Bool}{l:List V} (r:VRel t s.heap X v) (e:seqOf st X=some (k,l)) :
  ∃ a vs,v=.ref a∧(if k=true then PL s.heap a vs else PT s.heap a vs)∧VRels t s.heap l vs.toList∧l.length≤sizeMax:=by
 cases X with
 | tup m=>cases e; obtain ⟨a,vs,e1,e2,_,sz,e3⟩:=r; exact ⟨a,vs,e1,e2,e3,sz⟩
 | lst m=>cases e; obtain ⟨a,vs,e1,e2,_,sz,e3⟩:=r; exact ⟨a,vs,e1,e2,e3,sz⟩
 | ref lb =>
  simp only [seqOf] at e
  split at e
  ·rename_i m hm
   cases e
   obtain ⟨a,vs,h1,h2,sz,h3⟩:=R.objs lb _ hm
   obtain ⟨a',e1,e2⟩:=r
   rw [h1] at e2; cases e2
   exact ⟨a,vs,e1,h2,h3,sz⟩
  ·exact no_none e
 | _=>exact no_none e
noncomputable def vk (t:Tie) (h:Heap) (v:Value):Nat:=match v with
 | .none=>0
 | .bool _=>1
 | .int _ _=>2
 | .str _ _=>3
 | .ref a=>@ite Nat (∃ l,t.ρ l=some a) (Classical.propDecidable _) 6 ((h.get? a).elim 7 fun o=>@ite Nat (o.cls=.type "tuple") (Classical.propDecidable _) 4 (@ite Nat (o.cls=.type "list") (Classical.propDecidable _) 5 7))
 | _=>8
theorem vk_ref {h:Heap}{a:Addr}{o:Obj} (ho:h.get? a=some o) (na:¬ t.Avoid a):vk t h (.ref a)=@ite Nat (o.cls=.type "tuple") (Classical.propDecidable _) 4 (@ite Nat (o.cls=.type "list") (Classical.propDecidable _) 5 7):=by
 have n1:¬ ∃ l,t.ρ l=some a:=fun ⟨l,q⟩=>na (.inl ⟨l,.inl q⟩)
 show @ite Nat (∃ l,t.ρ l=some a) (Classical.propDecidable _) 6 ((h.get? a).elim 7 _)=_
 rw [if_neg n1,ho]; rfl
theorem list_ne_tuple:¬ (Value.type "list"=.type "tuple"):=by decide
theorem VRel.kind {h:Heap}:∀ {X:V}{v:Value},VRel t h X v→vk t h v=X.ctorIdx
 | .none,_,e=>by rw [show _=_ from e]; rfl
 | .bool b,_,e=>by rw [show _=_ from e]; rfl
 | .int i,_,⟨k,e⟩=>by rw [e]; rfl
 | .str x,_,⟨k,e⟩=>by rw [e]; rfl
 | .tup l,_,⟨a,vs,e,⟨n,ho⟩,na,_⟩=>by rw [e,vk_ref ho na,if_pos rfl]; rfl
 | .lst l,_,⟨a,vs,e,⟨n,ho⟩,na,_⟩=>by rw [e,vk_ref ho na,if_neg list_ne_tuple,if_pos rfl]; rfl
 | .ref l,_,⟨a,e,hl⟩=>by
  rw [e]
  show @ite Nat (∃ l,t.ρ l=some a) (Classical.propDecidable _) 6 _=_
  rw [if_pos ⟨l,hl⟩]; rfl
 | .exc c,_,⟨a,o,e,ho,hc,na⟩=>by rw [e,vk_ref ho na,hc,if_neg nofun,if_neg nofun]; rfl
theorem ref_inj {a b:Addr} (e:Value.ref a=.ref b):a=b:=by cases e; rfl
mutual
theorem VRel.inj (R:Rel G t st s):∀ (X Y:V) {v:Value},VRel t s.heap X v→VRel t s.heap Y v→X=Y
 | .none,Y,v,h,h'=>V.none.elim (motive_1:=fun Y=>V.none=Y) Y (h'.kind.symm.trans h.kind) rfl
 | .bool b,Y,v,h,h'=>V.bool.elim (motive_1:=fun Y=>VRel t s.heap Y v→V.bool b=Y) Y (h'.kind.symm.trans h.kind) (fun b' h'=>by
  have e:Value.bool b=.bool b':=(show v=.bool b from h).symm.trans h'
  cases e; rfl) h'
 | .int i,Y,v,h,h'=>V.int.elim (motive_1:=fun Y=>VRel t s.heap Y v→V.int i=Y) Y (h'.kind.symm.trans h.kind) (fun i' h'=>by
  obtain ⟨k,e⟩:=h
  obtain ⟨k',e'⟩:=h'
  rw [e] at e'; cases e'; rfl) h'
 | .str x,Y,v,h,h'=>V.str.elim (motive_1:=fun Y=>VRel t s.heap Y v→V.str x=Y) Y (h'.kind.symm.trans h.kind) (fun y h'=>by
  obtain ⟨k,e⟩:=h
  obtain ⟨k',e'⟩:=h'
  rw [e] at e'
  simp only [Value.str.injEq,Str.mk.injEq] at e'
  have:=congrArg Array.toList e'.1
  simp only [List.toList_toArray] at this
  rw [this]) h'
 | .tup l,Y,v,h,h'=>V.tup.elim (motive_1:=fun Y=>VRel t s.heap Y v→V.tup l=Y) Y (h'.kind.symm.trans h.kind) (fun m h'=>by
  obtain ⟨a,vs,e,⟨n,ho⟩,_,_,hr⟩:=h
  obtain ⟨b,ws,e',⟨n',ho'⟩,_,_,hr'⟩:=h'
  cases ref_inj (e.symm.trans e')
  rw [ho] at ho'; cases ho'
  rw [VRels.inj R l m hr hr']) h'
 | .lst l,Y,v,h,h'=>V.lst.elim (motive_1:=fun Y=>VRel t s.heap Y v→V.lst l=Y) Y (h'.kind.symm.trans h.kind) (fun m h'=>by
  obtain ⟨a,vs,e,⟨n,ho⟩,_,_,hr⟩:=h
  obtain ⟨b,ws,e',⟨n',ho'⟩,_,_,hr'⟩:=h'
  cases ref_inj (e.symm.trans e')
  rw [ho] at ho'; cases ho'
  rw [VRels.inj R l m hr hr']) h'
 | .ref l,Y,v,h,h'=>V.ref.elim (motive_1:=fun Y=>VRel t s.heap Y v→V.ref l=Y) Y (h'.kind.symm.trans h.kind) (fun r h'=>by
  obtain ⟨a,e,hl⟩:=h
  obtain ⟨b,e',hb⟩:=h'
  cases ref_inj (e.symm.trans e')
  rw [R.injρ l r a hl hb]) h'
 | .exc c,Y,v,h,h'=>V.exc.elim (motive_1:=fun Y=>VRel t s.heap Y v→V.exc c=Y) Y (h'.kind.symm.trans h.kind) (fun c' h'=>by
  obtain ⟨a,o,e,ho,hc,_⟩:=h
  obtain ⟨b,o',e',ho',hc',_⟩:=h'
  cases ref_inj (e.symm.trans e')
  rw [ho] at ho'; cases ho'
  rw [hc] at hc'; cases hc'; rfl) h'
theorem VRels.inj (R:Rel G t st s):∀ (l m:List V) {vs:List Value},VRels t s.heap l vs→VRels t s.heap m vs→l=m
 | [],[],vs,h,h'=>rfl
 | [],y :: m,vs,h,h'=>by
  obtain ⟨_,_,e,_⟩:=h'
  rw [show vs=[] from h] at e; cases e
 | x :: l,[],vs,h,h'=>by
  obtain ⟨_,_,e,_⟩:=h
  rw [show vs=[] from h'] at e; cases e
 | x :: l,y :: m,vs,h,h'=>by
  obtain ⟨v,r,e,a,b⟩:=h
  obtain ⟨v',r',e',a',b'⟩:=h'
  rw [e] at e'; cases e'
  rw [VRel.inj R x y a a',VRels.inj R l m b b']
end
noncomputable def vv (st:MS) (n:Nat) (la lb:List V) (j:Nat):Bool:=(veq st n ((la[j]?).getD .none) ((lb[j]?).getD .none)).getD false
theorem zip_inv {f:V→V→Option Bool}{x y:V}{la lb:List V}{r:Bool} (e:zipAll f (x :: la) (y :: lb)=some r):∃ p q,f x y=some p∧zipAll f la lb=some q∧r=(p && q):=by
 have e:(match f x y,zipAll f la lb with | some p,some q=>some (p && q) | _,_=>none)=some r:=e
 cases hp:f x y with
 | none=>rw [hp] at e; exact no_none e
 | some p =>
  cases hq:zipAll f la lb with
  | none=>rw [hp,hq] at e; exact no_none e
  | some q=>rw [hp,hq] at e; cases e; exact ⟨p,q,rfl,rfl,rfl⟩
theorem veq_go_spec (st:MS) (n:Nat):∀ (la lb:List V) (r:Bool),zipAll (veq st n) la lb=some r →
  (∀ (j:Nat) (x y:V),la[j]?=some x→lb[j]?=some y→∃ b,veq st n x y=some b)∧r=((List.range (min la.length lb.length)).all (vv st n la lb) && la.length == lb.length)
 | [],[],r,e=>by cases e; exact ⟨fun j x y e=>(by cases e),rfl⟩
 | [],y :: lb,r,e=>by cases e; exact ⟨fun j x y e=>(by cases e),by rw [List.length_nil,Nat.zero_min]; rfl⟩
 | x :: la,[],r,e=>by cases e; exact ⟨fun j x y _ e=>(by cases e),by rw [List.length_nil,Nat.min_zero]; rfl⟩
 | x :: la,y :: lb,r,e=>by
  obtain ⟨p,q,hp,hq,rfl⟩:=zip_inv e
  obtain ⟨h1,h2⟩:=veq_go_spec st n la lb q hq
  refine ⟨fun j x' y' e1 e2=>?_,?_⟩
  ·cases j with
   | zero=>cases e1; cases e2; exact ⟨p,hp⟩
   | succ j=>exact h1 j x' y' e1 e2
  ·have hv:vv st n (x :: la) (y :: lb) 0=p:=by show (veq st n x y).getD false=p; rw [hp]; rfl
   rw [List.length_cons,List.length_cons,Nat.add_min_add_right,List.range_succ_eq_map,List.all_cons,List.all_map,hv,h2,Bool.and_assoc]
   rw [show (la.length + 1 == lb.length + 1)=(la.length == lb.length) by rw [Bool.eq_iff_iff,beq_iff_eq,beq_iff_eq]; exact Nat.add_right_cancel_iff]; rfl
theorem zip_rfl {f:V→V→Option Bool} (h:∀ x b,f x x=some b→b=true):∀ (l:List V) (r:Bool),zipAll f l l=some r→r=true
 | [],_,e=>by cases e; rfl
 | x :: l,r,e=>by
  have e:(match f x x,zipAll f l l with | some p,some q=>some (p && q) | _,_=>none)=some r:=e
  cases hp:f x x with
  | none=>rw [hp] at e; exact no_none e
  | some p =>
   cases hq:zipAll f l l with
   | none=>rw [hp,hq] at e; exact no_none e
   | some q =>
    rw [hp,hq] at e
    cases e
    rw [h x p hp,zip_rfl h l q hq]; rfl
theorem flat_rfl {X:V}{r:Bool} (e:eqFlat X X=some r):r=true:=by
 cases X with
 | bool b=>cases e; cases b <;> rfl
 | int i=>cases e; exact decide_eq_true rfl
 | str x=>cases e; exact decide_eq_true rfl
 | none=>cases e; rfl
 | _=>exact no_none e
theorem veq_refl (st:MS):∀ (n:Nat) (X:V) (r:Bool),veq st n X X=some r→r=true
 | 0,_,_,e=>by exact no_none e
 | n + 1,X,r,e=>by
  have e:(match seqOf st X,seqOf st X with
   | some p,some q=>if p.1=q.1 then (if p.1=true∧p.2.length≠q.2.length then some false else zipAll (veq st n) p.2 q.2) else some false
   | some _,Option.none=>eqNotSeq X
   | Option.none,some _=>eqNotSeq X
   | Option.none,Option.none=>eqFlat X X)=some r:=e
  cases h:seqOf st X with
  | none=>rw [h] at e; exact flat_rfl e
  | some p =>
   rw [h] at e
   have e:(if p.1=p.1 then (if p.1=true∧p.2.length≠p.2.length then some false else zipAll (veq st n) p.2 p.2) else some false)=some r:=e
   rw [if_pos rfl,if_neg fun q=>q.2 rfl] at e
   exact zip_rfl (veq_refl st n) p.2 r e
theorem VRels.at {h:Heap}{l:List V}{vs:Array Value} (r:VRels t h l vs.toList) {j:Nat} (hj:j < vs.size):∃ x,l[j]?=some x∧VRel t h x vs[j]:=by
 have hl:=r.length
 have:j < l.length:=by rw [← hl]; simpa using hj
 obtain ⟨v,e1,e2⟩:=r.get (i:=j) (x:=l[j]) (by simp [this])
 refine ⟨l[j],by simp [this],?_⟩
 rw [Array.getElem?_toList,Array.getElem?_eq_getElem hj] at e1
 cases e1; exact e2
noncomputable abbrev RR (A:Around) (s:Shared) (v w:Value) (r:Bool):Prop:=RcAt A s v w r∧RcNeAt A s v w (!r)
theorem rr_of {A:Around}{v v' w w':Value}{r r':Bool} (hv:v=v') (hw:w=w') (h1:RcAt A s v' w' r') (h2:RcNeAt A s v' w' (!r')) (e:some r'=some r):RR A s v w r:=by
 subst hv hw; cases e; exact ⟨h1,h2⟩
theorem strEq (a b:List Nat):(toStr a == toStr b)=decide (a=b):=by
 by_cases q:a=b
 ·subst q; rw [decide_eq_true rfl]; exact beq_self_eq_true _
 ·rw [decide_eq_false q]
  exact beq_false_of_ne fun z=>q (by injection z with z; exact congrArg Array.toList z)
theorem rc_flat {A:Around}{X Y:V}{v w:Value}{r:Bool} (e:eqFlat X Y=some r) (hX:VRel t s.heap X v) (hY:VRel t s.heap Y w):RR A s v w r:=by
 cases X with
 | none=>cases Y with
  | none=>exact rr_of hX hY RcAt.none_none RcNeAt.none_none e
  | bool y=>exact rr_of hX hY (RcAt.none_bool _) (RcNeAt.none_bool _) e
  | int y=>exact hY.elim fun _ hw=>rr_of hX hw (RcAt.none_int _ _) (RcNeAt.none_int _ _) e
  | str y=>exact hY.elim fun _ hw=>rr_of hX hw (RcAt.none_str _ _) (RcNeAt.none_str _ _) e
  | _=>exact no_none e
 | bool x=>cases Y with
  | none=>exact rr_of hX hY (RcAt.bool_none _) (RcNeAt.bool_none _) e
  | bool y=>exact rr_of hX hY (RcAt.bool_bool _ _) (RcNeAt.bool_bool _ _) e
  | str y=>exact hY.elim fun _ hw=>rr_of hX hw (RcAt.bool_str _ _ _) (RcNeAt.bool_str _ _ _) e
  | _=>exact no_none e
 | int x =>
  obtain ⟨_,hX⟩:=hX
  cases Y with
  | none=>exact rr_of hX hY (RcAt.int_none _ _) (RcNeAt.int_none _ _) e
  | int y=>exact hY.elim fun _ hw=>rr_of hX hw (RcAt.int_int _ _ _ _) (RcNeAt.int_int _ _ _ _) e
  | str y=>exact hY.elim fun _ hw=>rr_of hX hw (RcAt.int_str _ _ _ _) (RcNeAt.int_str _ _ _ _) e
  | _=>exact no_none e
 | str x =>
  obtain ⟨_,hX⟩:=hX
  cases Y with
  | none=>exact rr_of hX hY (RcAt.str_none _ _) (RcNeAt.str_none _ _) e
  | bool y=>exact rr_of hX hY (RcAt.str_bool _ _ _) (RcNeAt.str_bool _ _ _) e
  | int y=>exact hY.elim fun _ hw=>rr_of hX hw (RcAt.str_int _ _ _ _) (RcNeAt.str_int _ _ _ _) e
  | str y=>exact hY.elim fun _ hw=>rr_of hX hw (RcAt.str_str _ _ _ _) (RcNeAt.str_str _ _ _ _) ((congrArg some (strEq x y)).trans e)
  | _=>exact no_none e
 | _=>exact no_none e
theorem rc_seqL {A:Around}{k:Bool}{a:Addr}{vs:Array Value}{Y:V}{w:Value}{r:Bool} (ia:if k=true then PL s.heap a vs else PT s.heap a vs) (hu:A.units < cLine) (e:eqNotSeq Y=some r) (hY:VRel t s.heap Y w):RR A s (.ref a) w r:=by
 cases k with
 | true =>
  have ia:=PL.isList (show PL s.heap a vs from ia)
  cases Y with
  | none=>exact rr_of rfl hY (RcAt.list_none ia hu) (RcNeAt.list_none ia hu) e
  | bool y=>exact rr_of rfl hY (RcAt.list_bool _ ia hu) (RcNeAt.list_bool _ ia hu) e
  | int y=>exact hY.elim fun _ hw=>rr_of rfl hw (RcAt.list_int _ _ ia hu) (RcNeAt.list_int _ _ ia hu) e
  | str y=>exact hY.elim fun _ hw=>rr_of rfl hw (RcAt.list_str _ _ ia hu) (RcNeAt.list_str _ _ ia hu) e
  | _=>exact no_none e
 | false =>
  have ia:=PT.isTuple (show PT s.heap a vs from ia)
  cases Y with
  | none=>exact rr_of rfl hY (RcAt.tuple_none ia hu) (RcNeAt.tuple_none ia hu) e
  | bool y=>exact rr_of rfl hY (RcAt.tuple_bool _ ia hu) (RcNeAt.tuple_bool _ ia hu) e
  | int y=>exact hY.elim fun _ hw=>rr_of rfl hw (RcAt.tuple_int _ _ ia hu) (RcNeAt.tuple_int _ _ ia hu) e
  | str y=>exact hY.elim fun _ hw=>rr_of rfl hw (RcAt.tuple_str _ _ ia hu) (RcNeAt.tuple_str _ _ ia hu) e
  | _=>exact no_none e
theorem rc_seqR {A:Around}{k:Bool}{a:Addr}{vs:Array Value}{Y:V}{w:Value}{r:Bool} (ia:if k=true then PL s.heap a vs else PT s.heap a vs) (hu:A.units < cLine) (e:eqNotSeq Y=some r) (hY:VRel t s.heap Y w):RR A s w (.ref a) r:=by
 cases k with
 | true =>
  have ia:=PL.isList (show PL s.heap a vs from ia)
  cases Y with
  | none=>exact rr_of hY rfl (RcAt.none_list ia hu) (RcNeAt.none_list ia hu) e
  | bool y=>exact rr_of hY rfl (RcAt.bool_list _ ia hu) (RcNeAt.bool_list _ ia hu) e
  | int y=>exact hY.elim fun _ hw=>rr_of hw rfl (RcAt.int_list _ _ ia hu) (RcNeAt.int_list _ _ ia hu) e
  | str y=>exact hY.elim fun _ hw=>rr_of hw rfl (RcAt.str_list _ _ ia hu) (RcNeAt.str_list _ _ ia hu) e
  | _=>exact no_none e
 | false =>
  have ia:=PT.isTuple (show PT s.heap a vs from ia)
  cases Y with
  | none=>exact rr_of hY rfl (RcAt.none_tuple ia hu) (RcNeAt.none_tuple ia hu) e
  | bool y=>exact rr_of hY rfl (RcAt.bool_tuple _ ia hu) (RcNeAt.bool_tuple _ ia hu) e
  | int y=>exact hY.elim fun _ hw=>rr_of hw rfl (RcAt.int_tuple _ _ ia hu) (RcNeAt.int_tuple _ _ ia hu) e
  | str y=>exact hY.elim fun _ hw=>rr_of hw rfl (RcAt.str_tuple _ _ ia hu) (RcNeAt.str_tuple _ _ ia hu) e
  | _=>exact no_none e
theorem rc_kinds {A:Around}{k j:Bool}{a b:Addr}{vs ws:Array Value} (ia:if k=true then PL s.heap a vs else PT s.heap a vs) (ib:if j=true then PL s.heap b ws else PT s.heap b ws) (hu:A.units < cLine) (hk:¬ k=j):RR A s (.ref a) (.ref b) false:=by
 cases k with
 | true =>
  cases j with
  | true=>exact absurd rfl hk
  | false =>
   have ia:=PL.isList (show PL s.heap a vs from ia)
   have ib:=PT.isTuple (show PT s.heap b ws from ib)
   exact ⟨RcAt.list_tuple ia ib hu,RcNeAt.list_tuple ia ib hu⟩
 | false =>
  cases j with
  | false=>exact absurd rfl hk
  | true =>
   have ia:=PT.isTuple (show PT s.heap a vs from ia)
   have ib:=PL.isList (show PL s.heap b ws from ib)
   exact ⟨RcAt.tuple_list ia ib hu,RcNeAt.tuple_list ia ib hu⟩
theorem VRels.size {h:Heap}{l:List V}{vs:Array Value} (r:VRels t h l vs.toList):vs.size=l.length:=r.length
theorem rc_same {A:Around}{n:Nat}{k:Bool}{a b:Addr}{vs ws:Array Value}{la lb:List V}{r:Bool} (ia:if k=true then PL s.heap a vs else PT s.heap a vs) (ib:if k=true then PL s.heap b ws else PT s.heap b ws) (hu:A.units < cLine)
  (ra:VRels t s.heap la vs.toList) (rb:VRels t s.heap lb ws.toList) (ih:∀ x y v w z,veq st n x y=some z→VRel t s.heap x v→VRel t s.heap y w→EqAt A.in1 s v w z)
  (e:(if k=true∧la.length≠lb.length then some false else zipAll (veq st n) la lb)=some r):RR A s (.ref a) (.ref b) r:=by
 have items (g1:∀ (j:Nat) (x y:V),la[j]?=some x→lb[j]?=some y→∃ b,veq st n x y=some b):∀ j (h1:j < vs.size) (h2:j < ws.size),EqAt A.in1 s vs[j] ws[j] (vv st n la lb j):=fun j h1 h2=>by
  obtain ⟨x,q1,q2⟩:=ra.at h1
  obtain ⟨y,q3,q4⟩:=rb.at h2
  obtain ⟨z,hz⟩:=g1 j x y q1 q3
  delta vv
  rw [q1,q3,Option.getD_some,Option.getD_some,hz]
  exact ih x y _ _ z hz q2 q4
 cases k with
 | true =>
  have ia:=PL.isList (show PL s.heap a vs from ia)
  have ib:=PL.isList (show PL s.heap b ws from ib)
  by_cases hne:la.length=lb.length
  ·rw [if_neg fun q=>q.2 hne] at e
   obtain ⟨g1,g2⟩:=veq_go_spec st n la lb r e
   have hz:vs.size=ws.size:=ra.size.trans (hne.trans rb.size.symm)
   have g2:r=(List.range vs.size).all (vv st n la lb):=by rw [g2,ra.size,hne,Nat.min_self,beq_self_eq_true,Bool.and_true]
   rw [g2]
   exact ⟨RcAt.lists ia ib hz hu (items g1),RcNeAt.lists ia ib hz hu (items g1)⟩
  ·rw [if_pos ⟨rfl,hne⟩] at e
   have hz:(vs.size != ws.size)=true:=by rw [ra.size,rb.size]; exact bne_iff_ne.2 hne
   exact rr_of rfl rfl (RcAt.lists_lengths ia ib hz hu) (RcNeAt.lists_lengths ia ib hz hu) e
 | false =>
  have ia:=PT.isTuple (show PT s.heap a vs from ia)
  have ib:=PT.isTuple (show PT s.heap b ws from ib)
  rw [if_neg fun q=>no_ft q.1] at e
  obtain ⟨g1,g2⟩:=veq_go_spec st n la lb r e
  rw [← ra.size,← rb.size] at g2
  rw [g2]
  exact ⟨RcAt.tuples ia ib hu (items g1),RcNeAt.tuples ia ib hu (items g1)⟩
noncomputable def isFlt:Value→Bool
 | .float _ _=>true
 | _=>false
theorem eqBool_nf {v w:Value} (hv:isFlt v=false):eqBool v w=holding [v,w] (do
  if v == w then rule "eq-bool.same-object"; return true
  truthOfDropped (← richCompare .Eq v w)):=by
 cases v with
 | float=>exact no_tf hv
 | _=>rfl
theorem eq_of_rc {A:Around}{v w:Value}{k:Bool} (hv:isFlt v=false) (hne:v≠w) (h:RcAt A s v w k):EqAt A s v w k:=fun prog W E Q hq=>by
 rw [eqBool_nf hv]
 refine wpAny_holding ?_
 refine wpAny_ite_split (fun hab=>absurd (eq_of_beq hab) hne) (fun _=>?_)
 exact wpAny_bind (h prog W E _ (wpAny_truthy_bool hq))
theorem VRel.noFlt {h:Heap}:∀ {X:V}{v:Value},VRel t h X v→isFlt v=false
 | .none,_,e=>by rw [show _=_ from e]; rfl
 | .bool b,_,e=>by rw [show _=_ from e]; rfl
 | .int i,_,⟨k,e⟩=>by rw [e]; rfl
 | .str x,_,⟨k,e⟩=>by rw [e]; rfl
 | .tup l,_,⟨a,vs,e,_⟩=>by rw [e]; rfl
 | .lst l,_,⟨a,vs,e,_⟩=>by rw [e]; rfl
 | .ref l,_,⟨a,e,hl⟩=>by rw [e]; rfl
 | .exc c,_,⟨a,o,e,_⟩=>by rw [e]; rfl
theorem eq_rc (R:Rel G t st s) {n:Nat}{X Y:V}{v w:Value}{r:Bool}{A:Around} (e:veq st n X Y=some r) (hX:VRel t s.heap X v) (hY:VRel t s.heap Y w) (h:RR A s v w r):EqAt A s v w r:=by
 by_cases q:v=w
 ·subst q
  cases VRel.inj R X Y hX hY
  rw [veq_refl st n X r e]
  exact EqAt.same _
 ·exact eq_of_rc hX.noFlt q h.1
theorem rc_all (R:Rel G t st s):∀ (n:Nat) (X Y:V) (v w:Value) (r:Bool) (A:Around),veq st n X Y=some r→VRel t s.heap X v→VRel t s.heap Y w→A.units + n < cLine→RR A s v w r
 | 0,_,_,_,_,_,_,e,_,_,_=>no_none e
 | n + 1,X,Y,v,w,r,A,e,hX,hY,hu=>by
  have e:(match seqOf st X,seqOf st Y with
   | some p,some q=>if p.1=q.1 then (if p.1=true∧p.2.length≠q.2.length then some false else zipAll (veq st n) p.2 q.2) else some false
   | some _,Option.none=>eqNotSeq Y
   | Option.none,some _=>eqNotSeq X
   | Option.none,Option.none=>eqFlat X Y)=some r:=e
  have hu0:A.units < cLine:=Nat.lt_of_le_of_lt (Nat.le_add_right _ _) hu
  cases hx:seqOf st X with
  | some p =>
   obtain ⟨a,vs,rfl,ia,ra,_⟩:=seqOf_real R hX hx
   cases hy:seqOf st Y with
   | some q =>
    obtain ⟨b,ws,rfl,ib,rb,_⟩:=seqOf_real R hY hy
    rw [hx,hy] at e
    have e:(if p.1=q.1 then (if p.1=true∧p.2.length≠q.2.length then some false else zipAll (veq st n) p.2 q.2) else some false)=some r:=e
    by_cases hk:p.1=q.1
    ·rw [if_pos hk] at e
     rw [← hk] at ib
     exact rc_same ia ib hu0 ra rb (fun x y v w z hz hx hy=>eq_rc R hz hx hy (rc_all R n x y v w z A.in1 hz hx hy (show A.units + 1 + n < cLine by rw [Nat.add_assoc,Nat.add_comm 1]; exact hu))) e
    ·rw [if_neg hk] at e
     cases e
     exact rc_kinds ia ib hu0 hk
   | none=>rw [hx,hy] at e; exact rc_seqL ia hu0 e hY
  | none =>
   cases hy:seqOf st Y with
   | some q =>
    obtain ⟨b,ws,rfl,ib,rb,_⟩:=seqOf_real R hY hy
    rw [hx,hy] at e
    exact rc_seqR ib hu0 e hX
   | none=>rw [hx,hy] at e; exact rc_flat e hX hY
theorem rc_sound (R:Rel G t st s) {n:Nat}{X Y:V}{v w:Value}{r:Bool}{A:Around} (e:veq st n X Y=some r) (hX:VRel t s.heap X v) (hY:VRel t s.heap Y w) (hu:A.units + n < cLine):RR A s v w r:=rc_all R n X Y v w r A e hX hY hu
theorem veq_sound (R:Rel G t st s) (n:Nat) (X Y:V) (v w:Value) (r:Bool) (A:Around) (e:veq st n X Y=some r) (hX:VRel t s.heap X v) (hY:VRel t s.heap Y w) (hu:A.units + n < cLine):EqAt A s v w r:=eq_rc R e hX hY (rc_all R n X Y v w r A e hX hY hu)
end
end Mine
end
section
namespace Mine
open PySem PySem.W PyProof.Rows PySem.SeqAt
section
variable {G:Gd}{t:Tie}{st:MS}{s:Shared}
theorem vin_inv {st:MS}{x y:V}{l:List V}{r:Bool} (e:vin st x (y :: l)=some r):∃ p q,veq st eqDeep y x=some p∧vin st x l=some q∧r=(p || q):=by
 have e:(match veq st eqDeep y x,vin st x l with | some p,some q=>some (p || q) | _,_=>none)=some r:=e
 cases hp:veq st eqDeep y x with
 | none=>rw [hp] at e; exact no_none e
 | some p =>
  cases hq:vin st x l with
  | none=>rw [hp,hq] at e; exact no_none e
  | some q=>rw [hp,hq] at e; cases e; exact ⟨p,q,rfl,rfl,rfl⟩
theorem vin_spec (st:MS) (x:V):∀ (l:List V) (r:Bool),vin st x l=some r→(∀ y∈l,∃ b,veq st eqDeep y x=some b)∧r=l.any fun y=>(veq st eqDeep y x).getD false
 | [],r,e=>by cases e; exact ⟨fun y h=>(by cases h),rfl⟩
 | y :: l,r,e=>by
  obtain ⟨p,q,hp,hq,rfl⟩:=vin_inv e
  obtain ⟨h1,h2⟩:=vin_spec st x l q hq
  refine ⟨fun z hz=>?_,?_⟩
  ·rcases List.mem_cons.mp hz with rfl | hz
   ·exact ⟨p,hp⟩
   ·exact h1 z hz
  ·rw [List.any_cons,hp,h2]; rfl
end
end Mine
end
section
namespace Mine
open PySem PySem.W PyProof.Rows PySem.SeqAt
section
variable {G:Gd}{N:Names}{C:Calls}{d:Dp}{sc:Sc}{Γ:Gam}{t:Tie}{st st':MS}{s:Shared}{A:Around}{X Y Z:V}{v w:Value}
theorem AOk.u12 (h:AOk d A):A.units + eqDeep < cLine:=by have:=h.un; unfold eqDeep; lia
theorem AOk.u1 (h:AOk d A):A.units < cLine:=by have:=h.un; omega
theorem DRel.find {h:Heap}:∀ {dd:List (V×V)}{kvs:List (PySem.Str×Value)}{x:List Nat},DRel t h dd kvs →
  (match dfind (.str x) dd with | some X=>∃ y,valueAt kvs (toStr x)=some y∧VRel t h X y | none=>valueAt kvs (toStr x)=none)
 | [],_,x,e=>by cases e; rfl
 | (k,u) :: r,_,x,⟨z,y,rest,e1,e2,e3,e4⟩=>by
  subst e1 e2
  have ih:=DRel.find (x:=x) e4
  have hh:dfind (.str x) ((V.str z,u) :: r)=if decide (z=x)=true then some u else dfind (.str x) r:=rfl
  rw [hh]
  by_cases q:z=x
  ·subst q; rw [if_pos (decide_eq_true rfl)]; exact ⟨y,by simp [valueAt],e3⟩
  ·rw [if_neg (by rw [decide_eq_false q]; exact Bool.false_ne_true)]
   have q2:¬ (toStr z=toStr x):=fun z'=>q (by simpa using congrArg Array.toList (Str.mk.inj z'))
   have:valueAt ((toStr z,y) :: rest) (toStr x)=valueAt rest (toStr x):=by simp [valueAt,q2]
   rw [this]; exact ih
theorem zipm {h:Heap}:∀ {m:List V}{ws:List Value},VRels t h m ws→∀ p∈m.zip ws,VRel t h p.1 p.2:=by
 intro m
 induction m with
 | nil=>intro ws h p hp; cases h; cases hp
 | cons x m ih =>
  rintro ws ⟨u,r,rfl,h1,h2⟩ p hp
  rcases List.mem_cons.mp hp with rfl | hp
  ·exact h1
  ·exact ih h2 p hp
theorem zipin {h:Heap}:∀ {m:List V}{ws:List Value},VRels t h m ws→∀ y∈ws,∃ Y',(Y',y)∈m.zip ws:=by
 intro m
 induction m with
 | nil=>intro ws h y hy; cases h; cases hy
 | cons x m ih =>
  rintro ws ⟨u,r,rfl,h1,h2⟩ y hy
  rcases List.mem_cons.mp hy with rfl | hy
  ·exact ⟨x,.head _⟩
  ·obtain ⟨Y',h3⟩:=ih h2 y hy; exact ⟨Y',.tail _ h3⟩
noncomputable def eqs (st:MS) (X:V) (l:List V) (vs:List Value) (y:Value):Bool:=(l.zip vs).any fun p=>decide (p.2=y) && (veq st eqDeep p.1 X).getD false
theorem eqs_at (R:Rel G t st s) {l:List V}{vs:List Value} (ra:VRels t s.heap l vs) {Y':V}{y:Value} (hin:(Y',y)∈l.zip vs) {z:Bool} (hz:veq st eqDeep Y' X=some z):eqs st X l vs y=z:=by
 cases z with
 | true=>exact List.any_eq_true.mpr ⟨_,hin,by rw [hz,decide_eq_true rfl]; rfl⟩
 | false =>
  refine List.any_eq_false.mpr fun p hp=>?_
  by_cases q:p.2=y
  ·have h3:=zipm ra p hp
   rw [q] at h3
   rw [VRel.inj R _ _ h3 (zipm ra _ hin),hz,Option.getD_some,Bool.and_false]; exact Bool.false_ne_true
  ·rw [decide_eq_false q,Bool.false_and]; exact Bool.false_ne_true
theorem eqs_any (R:Rel G t st s) {l:List V}{vs:List Value} (ra:VRels t s.heap l vs) (g1:∀ y∈l,∃ z,veq st eqDeep y X=some z):∀ (m:List V) (ws:List Value),VRels t s.heap m ws→(∀ p∈m.zip ws,p∈l.zip vs)→ws.any (eqs st X l vs)=m.any fun y=>(veq st eqDeep y X).getD false:=by
 intro m
 induction m with
 | nil=>intro ws h _; cases h; rfl
 | cons x m ih =>
  rintro ws ⟨u,r,rfl,h1,h2⟩ hsub
  have hin:(x,u)∈l.zip vs:=hsub _ (.head _)
  obtain ⟨z,hz⟩:=g1 x (List.of_mem_zip hin).1
  rw [List.any_cons,List.any_cons,ih r h2 fun p hp=>hsub p (.tail _ hp),eqs_at R ra hin hz,hz]; rfl
theorem eqs_ev (R:Rel G t st s) (hA:AOk d A) (hX:VRel t s.heap X v) {l:List V}{vs:List Value} (ra:VRels t s.heap l vs) (g1:∀ y∈l,∃ z,veq st eqDeep y X=some z) {y:Value} (hy:y∈vs):EqAt A.in1 s y v (eqs st X l vs y):=by
 obtain ⟨Y',h1⟩:=zipin ra y hy
 obtain ⟨z,hz⟩:=g1 Y' (List.of_mem_zip h1).1
 rw [eqs_at R ra h1 hz]
 exact veq_sound R _ Y' X y v z A.in1 hz (zipm ra _ h1) hX (by show A.units + 1 + eqDeep < cLine; have:=hA.un; unfold eqDeep; omega)
noncomputable def InBoth (G:Gd) (A:Around) (s:Shared) (v w:Value) (b:Bool):Prop :=
 ∃ tk,(∀ (Q:Value→Shared→Prop) (E:Value→Shared→Prop),Q (.bool b) { s with toks:=tk }→wpAny G.M A (compareOp .In v w) Q E s) ∧
  ∀ (Q:Value→Shared→Prop) (E:Value→Shared→Prop),Q (.bool (!b)) { s with toks:=tk }→wpAny G.M A (compareOp .NotIn v w) Q E s
theorem in_seq (R:Rel G t st s) (hA:AOk d A) (hX:VRel t s.heap X v) (hY:VRel t s.heap Y w) {k:Bool}{l:List V} (hs:seqOf st Y=some (k,l)) {b:Bool} (hb:vin st X l=some b):InBoth G A s v w b:=by
 obtain ⟨a,vs,rfl,ia,ra,_⟩:=seqOf_real R hY hs
 obtain ⟨g1,g2⟩:=vin_spec st X l b hb
 have ev:∀ y∈vs,EqAt A.in1 s y v (eqs st X l vs.toList y):=fun y hy=>eqs_ev R hA hX ra g1 (Array.mem_toList_iff.mpr hy)
 have anyE:vs.any (eqs st X l vs.toList)=b:=by rw [g2,← Array.any_toList]; exact eqs_any R ra g1 l vs.toList ra fun p hp=>hp
 cases k with
 | true=>exact ⟨s.toks,fun Q E q=>in_listAt _ (PL.isList ia) ev (by rw [anyE]; exact q),fun Q E q=>notIn_listAt _ (PL.isList ia) ev (by rw [anyE]; exact q)⟩
 | false=>exact ⟨s.toks,fun Q E q=>in_tupleAt _ (PT.isTuple ia) ev (by rw [anyE]; exact q),fun Q E q=>notIn_tupleAt _ (PT.isTuple ia) ev (by rw [anyE]; exact q)⟩
theorem in_txt {x y:List Nat}{c:Nat} (hx:x=[c]) (hX:VRel t s.heap (.str x) v) (hY:VRel t s.heap (.str y) w):InBoth G A s v w (decide (c∈y)):=by
 subst hx
 obtain ⟨k1,rfl⟩:=hX
 obtain ⟨k2,rfl⟩:=hY
 have q:=StrLaws.found_one (toStr y) c
 have q2:(toStr y).cps.toList=y:=by simp
 rw [q2] at q
 exact ⟨s.toks,fun Q E h=>PyProof.Rows.in_str (by rw [q]; exact h),fun Q E h=>PyProof.Rows.notIn_str (by rw [q]; exact h)⟩
theorem in_dict (R:Rel G t st s) {x:List Nat}{r:Lbl}{dd:List (V×V)} (hX:VRel t s.heap (.str x) v) (hY:VRel t s.heap (.ref r) w) (hdd:st.heap r=some (.dict dd)):InBoth G A s v w (dfind (.str x) dd).isSome:=by
 obtain ⟨a,kvs,h1,h2,h3⟩:=R.objs r _ hdd
 obtain ⟨a',rfl,e2⟩:=hY
 rw [h1] at e2; cases e2
 have hsys:(a == sysModules)=false:=by simp only [beq_eq_false_iff_ne,ne_eq]; rintro rfl; exact R.sys r h1
 obtain ⟨k1,rfl⟩:=hX
 have f:=DRel.find (x:=x) h3
 have this:(valueAt kvs (toStr x)).isSome=(dfind (.str x) dd).isSome:=by
  cases q:dfind (.str x) dd with
  | none=>rw [q] at f; rw [f]; rfl
  | some z=>rw [q] at f; obtain ⟨y,e1,_⟩:=f; rw [e1]; rfl
 exact ⟨s.toks + 1,fun Q E h=>wpAny_in_of (strKind_is G.prog G.w (toStr x) k1) hsys h2.mapOf (by rw [this]; exact h),fun Q E h=>wpAny_notIn_of (strKind_is G.prog G.w (toStr x) k1) hsys h2.mapOf (by rw [this]; exact h)⟩
theorem one_inv {y:List Nat}{b:Bool} (e:(match X with | .str [c]=>some (decide (c∈y)) | _=>none)=some b):∃ c,X=.str [c]∧b=decide (c∈y):=by
 cases X with
 | str x=>cases x with
  | nil=>exact no_none e
  | cons c r=>cases r with
   | nil=>cases e; exact ⟨c,rfl,rfl⟩
   | cons _ _=>exact no_none e
 | _=>exact no_none e
theorem kin_inv {h:Option MObj}{b:Bool} (e:(match h with | some (.dict l)=>if X.isKey then some (dfind X l).isSome else none | _=>none)=some b):∃ x dd,X=.str x∧h=some (.dict dd)∧b=(dfind (.str x) dd).isSome:=by
 cases h with
 | none=>exact no_none e
 | some o=>cases o with
  | dict l=>cases X with
   | str x=>cases e; exact ⟨x,l,rfl,rfl,rfl⟩
   | _=>exact no_none e
  | _=>exact no_none e
theorem memb_inv {b:Bool} (hb:cmpOp.memb X Y st=some b):(∃ k l,seqOf st Y=some (k,l)∧vin st X l=some b)∨(∃ c y,X=.str [c]∧Y=.str y∧b=decide (c∈y))∨∃ x r dd,X=.str x∧Y=.ref r∧st.heap r=some (.dict dd)∧b=(dfind (.str x) dd).isSome:=by
 delta cmpOp.memb at hb
 cases hs:seqOf st Y with
 | some p=>rw [hs] at hb; exact .inl ⟨p.1,p.2,rfl,hb⟩
 | none =>
  rw [hs] at hb
  cases Y with
  | str y=>obtain ⟨c,h1,h2⟩:=one_inv hb; exact .inr (.inl ⟨c,y,h1,rfl,h2⟩)
  | ref r=>obtain ⟨x,dd,h1,h2,h3⟩:=kin_inv hb; exact .inr (.inr ⟨x,r,dd,h1,rfl,h2,h3⟩)
  | _=>exact no_none hb
theorem memb_sound (R:Rel G t st s) (hA:AOk d A) (hX:VRel t s.heap X v) (hY:VRel t s.heap Y w) {b:Bool} (hb:cmpOp.memb X Y st=some b):InBoth G A s v w b:=by
 rcases memb_inv hb with ⟨k,l,h1,h2⟩ | ⟨c,y,rfl,rfl,rfl⟩ | ⟨x,r,dd,rfl,rfl,h1,rfl⟩
 ·exact in_seq R hA hX hY h1 h2
 ·exact in_txt rfl hX hY
 ·exact in_dict R hX hY h1
theorem sim_plain (R:Rel G t st s) {op:CmpOp}{b:Bool} (h:∀ (Q:Value→Shared→Prop) (E:Value→Shared→Prop),Q (.bool b) s→wpAny G.M A (compareOp op v w) Q E s):Sim G A t s (compareOp op v w) st (vrel (.bool b)) :=
 fun Q E k=>h Q E (k _ t s (.refl _ _ _) R rfl)
theorem ints_inv {f:Int→Int→Bool} (e:(match X,Y with | .int x,.int y=>Res.ok (V.bool (f x y)) st | _,_=>Res.stuck)=.ok Z st'):∃ x y,X=.int x∧Y=.int y∧Z=.bool (f x y)∧st'=st:=by
 cases X with
 | int x=>cases Y with
  | int y=>cases e; exact ⟨x,y,rfl,rfl,rfl,rfl⟩
  | _=>exact no_stuck e
 | _=>exact no_stuck e
theorem cmp_ints {op:CmpOp}{f:Int→Int→Bool} (R:Rel G t st s) (hX:VRel t s.heap X v) (hY:VRel t s.heap Y w) (e:(match (generalizing:=false) X,Y with | .int x,.int y=>Res.ok (V.bool (f x y)) st | _,_=>Res.stuck)=.ok Z st')
  (h:∀ x y k1 k2 (Q:Value→Shared→Prop) (E:Value→Shared→Prop),Q (.bool (f x y)) s→wpAny G.M A (compareOp op (.int x k1) (.int y k2)) Q E s):Sim G A t s (compareOp op v w) st' (vrel Z):=by
 obtain ⟨x,y,rfl,rfl,rfl,rfl⟩:=ints_inv e
 obtain ⟨k1,rfl⟩:=hX
 obtain ⟨k2,rfl⟩:=hY
 exact sim_plain R fun Q E q=>h x y k1 k2 Q E q
theorem cmp_eq (R:Rel G t st s) (hA:AOk d A) (hX:VRel t s.heap X v) (hY:VRel t s.heap Y w) (e:cmpOp .eq X Y st=.ok Z st'):Sim G A t s (compareOp .Eq v w) st' (vrel Z):=by
 obtain ⟨b,h1,rfl,rfl⟩:=okB_inv e
 exact sim_plain R fun Q E q=>(rc_sound R h1 hX hY hA.u12).1 _ _ _ _ q
theorem cmp_ne (R:Rel G t st s) (hA:AOk d A) (hX:VRel t s.heap X v) (hY:VRel t s.heap Y w) (e:cmpOp .ne X Y st=.ok Z st'):Sim G A t s (compareOp .NotEq v w) st' (vrel Z):=by
 obtain ⟨b,h1,rfl,rfl⟩:=okB_inv e
 obtain ⟨b',h2,rfl⟩:=Option.map_eq_some_iff.mp h1
 exact sim_plain R fun Q E q=>(rc_sound R h2 hX hY hA.u12).2 _ _ _ _ q
theorem cmp_in (R:Rel G t st s) (hA:AOk d A) (hX:VRel t s.heap X v) (hY:VRel t s.heap Y w) (e:cmpOp .isin X Y st=.ok Z st'):Sim G A t s (compareOp .In v w) st' (vrel Z):=by
 obtain ⟨b,hb,rfl,rfl⟩:=okB_inv e
 obtain ⟨tk,h,_⟩:=memb_sound R hA hX hY hb
 exact fun Q E k=>h _ _ (k _ t _ (Step.toks _ t s _) (R.toks _) rfl)
theorem cmp_notin (R:Rel G t st s) (hA:AOk d A) (hX:VRel t s.heap X v) (hY:VRel t s.heap Y w) (e:cmpOp .notin X Y st=.ok Z st'):Sim G A t s (compareOp .NotIn v w) st' (vrel Z):=by
 obtain ⟨b,hb,rfl,rfl⟩:=okB_inv e
 obtain ⟨b',h2,rfl⟩:=Option.map_eq_some_iff.mp hb
 obtain ⟨tk,_,h⟩:=memb_sound R hA hX hY h2
 exact fun Q E k=>h _ _ (k _ t _ (Step.toks _ t s _) (R.toks _) rfl)
theorem cmp_sound {o:Cop} (R:Rel G t st s) (hA:AOk d A) (hX:VRel t s.heap X v) (hY:VRel t s.heap Y w) (e:cmpOp o X Y st=.ok Z st'):Sim G A t s (compareOp (cmpOf o) v w) st' (vrel Z):=by
 cases o with
 | eq=>exact cmp_eq R hA hX hY e
 | ne=>exact cmp_ne R hA hX hY e
 | lt=>exact cmp_ints (f:=fun x y=>decide (x < y)) R hX hY e fun _ _ _ _ Q E q=>PyProof.Rows.lt_int q
 | le=>exact cmp_ints (f:=fun x y=>decide (x≤y)) R hX hY e fun _ _ _ _ Q E q=>PyProof.Rows.le_int q
 | gt=>exact cmp_ints (f:=fun x y=>decide (y < x)) R hX hY e fun _ _ _ _ Q E q=>PyProof.Rows.gt_int q
 | ge=>exact cmp_ints (f:=fun x y=>decide (y≤x)) R hX hY e fun _ _ _ _ Q E q=>PyProof.Rows.ge_int q
 | isin=>exact cmp_in R hA hX hY e
 | notin=>exact cmp_notin R hA hX hY e
end
end Mine
end
section
namespace Mine
open PySem PySem.W PyProof.Rows PySem.SeqAt
section
variable {G:Gd}{N:Names}{C:Calls}{d:Dp}{sc:Sc}{Γ:Gam}{t:Tie}{st st':MS}{s:Shared}{A:Around}{X Y Z:V}{v w:Value}
theorem size_none (h:Heap):h.get? h.objs.size=none:=by
 cases e:h.get? h.objs.size with
 | none=>rfl
 | some o=>exact absurd (Heap.lt_size e) (Nat.lt_irrefl _)
theorem Rel.push (R:Rel G t st s) (o:Obj):Rel G t st { s with heap:=s.heap.push o }:=R.grow (fun _ _ e=>Heap.get?_push_of_some o e) rfl rfl
theorem Step.push (R:Rel G t st s) (o:Obj):Step noX t t s { s with heap:=s.heap.push o }:=Step.grow R (fun _ _ e=>Heap.get?_push_of_some o e) rfl rfl
theorem VRel.newL (R:Rel G t st s) {l:List V}{vs:List Value} (r:VRels t s.heap l vs) (sz:l.length≤sizeMax):VRel t (s.heap.push { cls:=.type "list",data:=.seq vs.toArray }) (.lst l) (.ref s.heap.objs.size) :=
 ⟨_,vs.toArray,rfl,⟨_,Heap.get?_push_size _ rfl⟩,R.fresh (size_none _),sz,VRels.step (σ':={ s with heap:=s.heap.push _ }) (Step.push R _) (fun _ q=>q.elim) l r⟩
theorem VRel.newT (R:Rel G t st s) {l:List V}{vs:List Value} (r:VRels t s.heap l vs) (sz:l.length≤sizeMax):VRel t (s.heap.push { cls:=.type "tuple",data:=.seq vs.toArray }) (.tup l) (.ref s.heap.objs.size) :=
 ⟨_,vs.toArray,rfl,⟨_,Heap.get?_push_size _ rfl⟩,R.fresh (size_none _),sz,VRels.step (σ':={ s with heap:=s.heap.push _ }) (Step.push R _) (fun _ q=>q.elim) l r⟩
theorem Sim.newL (R:Rel G t st s) {l:List V}{vs:List Value} (r:VRels t s.heap l vs) (sz:l.length≤sizeMax) {tree:Sem Value}
  (h:∀ (Q:Value→Shared→Prop) (E:Value→Shared→Prop),Q (.ref s.heap.objs.size) { s with heap:=s.heap.push { cls:=.type "list",data:=.seq vs.toArray } }→wpAny G.M A tree Q E s):Sim G A t s tree st (vrel (.lst l)) :=
 fun Q E k=>h Q E (k _ t _ (Step.push R _) (R.push _) (VRel.newL R r sz))
theorem Sim.newT (R:Rel G t st s) {l:List V}{vs:List Value} (r:VRels t s.heap l vs) (sz:l.length≤sizeMax) {tree:Sem Value}
  (h:∀ (Q:Value→Shared→Prop) (E:Value→Shared→Prop),Q (.ref s.heap.objs.size) { s with heap:=s.heap.push { cls:=.type "tuple",data:=.seq vs.toArray } }→wpAny G.M A tree Q E s):Sim G A t s tree st (vrel (.tup l)) :=
 fun Q E k=>h Q E (k _ t _ (Step.push R _) (R.push _) (VRel.newT R r sz))
theorem intBits_eq (i:Int):intBits i=Builtin.Int.intBits i:=by
 unfold intBits Builtin.Int.intBits
 simp only [beq_iff_eq]
theorem mulOk_real {a b:Int} (h:mulOk a b=true):IntMulOk a b:=by
 simp only [mulOk,Bool.or_eq_true,decide_eq_true_eq] at h
 rcases h with (h | h) | h
 ·exact IntMulOk.of_left (by rw [← intBits_eq]; exact h)
 ·exact IntMulOk.of_right (by rw [← intBits_eq]; exact h)
 ·exact mulOk_of_bits (m:=intBits a) (n:=intBits b) (by rw [intBits_eq]; exact Nat.le_refl _) (by rw [intBits_eq]; exact Nat.le_refl _) h
theorem noPylong {x y:Int} (h:¬ 64 < intBits y):Builtin.divisionGoesByPylong x y=false:=by
 delta Builtin.divisionGoesByPylong
 dsimp only
 have:¬ ((if (y == 0)=true then 0 else y.natAbs.log2 / 30 + 1) > 300):=by
  unfold intBits at h
  split
  ·lia
  ·rename_i q
   rw [if_neg (by simpa using q)] at h
   lia
 rw [decide_eq_false this]; rfl
theorem seq_tup {m:List V} (e:seqOf st X=some (false,m)):X=.tup m:=by
 cases X with
 | tup m=>cases e; rfl
 | lst m=>cases e
 | ref r =>
  have e:(match st.heap r with | some (.list l)=>some (true,l) | _=>none)=some (false,m):=e
  cases h:st.heap r with
  | none=>rw [h] at e; exact no_none e
  | some o=>rw [h] at e; cases o with
   | list l=>cases e
   | _=>exact no_none e
 | _=>exact no_none e
theorem seq2_inv {o1 o2:Option (Bool×List V)}{f:Bool×List V→Bool×List V→Res V} (e:(match o1,o2 with | some p,some q=>f p q | _,_=>.stuck)=.ok Z st'):∃ p q,o1=some p∧o2=some q∧f p q=.ok Z st':=by
 cases o1 with
 | none=>exact no_stuck e
 | some p=>cases o2 with
  | none=>exact no_stuck e
  | some q=>exact ⟨p,q,rfl,rfl,e⟩
theorem VRels.nil_of {h:Heap}{l:List V}{vs:Array Value} (r:VRels t h l vs.toList) (q:vs.isEmpty=true):l=[]:=by
 have hz:=r.size
 rw [Array.isEmpty_iff.1 q] at hz
 exact List.length_eq_zero_iff.mp hz.symm
theorem arr_app (vs ws:Array Value):vs ++ ws=(vs.toList ++ ws.toList).toArray:=by
 rw [← Array.toList_append,Array.toArray_toList]
theorem add_lists {x y:List V}{a b:Addr}{vs ws:Array Value} (R:Rel G t st s) (ia:PL s.heap a vs) (ib:PL s.heap b ws) (ra:VRels t s.heap x vs.toList) (rb:VRels t s.heap y ws.toList) (hz:x.length + y.length≤sizeMax):Sim G A t s (binaryOp .Add (.ref a) (.ref b)) st (vrel (.lst (x ++ y))):=by
 have hsz:vs.size + ws.size≤sizeLine:=by rw [ra.size,rb.size]; exact hz
 obtain ⟨n,ha⟩:=ia
 obtain ⟨n2,hb⟩:=ib
 exact Sim.newL R (ra.append rb) (by rw [List.length_append]; exact hz) fun Q E q=>P.add_list ha hb (by rw [arr_app]; exact q) hsz
theorem add_tups {x y:List V}{a b:Addr}{vs ws:Array Value} (R:Rel G t st s) (ia:PT s.heap a vs) (ib:PT s.heap b ws) (ra:VRels t s.heap x vs.toList) (rb:VRels t s.heap y ws.toList) (hz:x.length + y.length≤sizeMax) (hX:VRel t s.heap (.tup x) (.ref a)) (hY:VRel t s.heap (.tup y) (.ref b)):Sim G A t s (binaryOp .Add (.ref a) (.ref b)) st (vrel (.tup (x ++ y))):=by
 have hsz:vs.size + ws.size≤sizeLine:=by rw [ra.size,rb.size]; exact hz
 obtain ⟨n,ha⟩:=ia
 obtain ⟨n2,hb⟩:=ib
 by_cases q1:vs.isEmpty=true
 ·cases ra.nil_of q1
  exact fun Q E k=>concat_meets ⟨_,ha,rfl⟩ ⟨_,hb,rfl⟩ noFill_tuple_add seq_tuple_add PySem.F.slot_tuple_add PySem.F.entry_tuple_add (PySem.F.args_tuple_add_2 _ _) (tuple_addW0 a b vs ws n n2 none none #[] #[] q1) ⟨ha,hb,k _ t s (.refl _ _ _) R hY⟩
 ·by_cases q2:ws.isEmpty=true
  ·cases rb.nil_of q2
   exact fun Q E k=>concat_meets ⟨_,ha,rfl⟩ ⟨_,hb,rfl⟩ noFill_tuple_add seq_tuple_add PySem.F.slot_tuple_add PySem.F.entry_tuple_add (PySem.F.args_tuple_add_2 _ _) (tuple_addW1 a b vs ws n n2 none none #[] #[] q1 q2) ⟨ha,hb,k _ t s (.refl _ _ _) R (by rw [List.append_nil]; exact hX)⟩
  ·exact Sim.newT R (ra.append rb) (by rw [List.length_append]; exact hz) fun Q E q=>P.add_tuple ha hb q1 q2 (by rw [arr_app]; exact q) hsz
theorem seqAdd_sound (R:Rel G t st s) (hX:VRel t s.heap X v) (hY:VRel t s.heap Y w) (e:seqAdd X Y st=.ok Z st'):Sim G A t s (binaryOp .Add v w) st' (vrel Z):=by
 obtain ⟨⟨k,x⟩,⟨k',y⟩,h1,h2,e⟩:=seq2_inv e
 obtain ⟨⟨hk,hz⟩,e⟩:=if_inv e
 cases (show k=k' from hk)
 obtain ⟨rfl,rfl⟩:=ok_inv e
 obtain ⟨aa,vs,rfl,ia,ra,_⟩:=seqOf_real R hX h1
 obtain ⟨bb,ws,rfl,ib,rb,_⟩:=seqOf_real R hY h2
 cases k with
 | true=>exact add_lists R ia ib ra rb hz
 | false =>
  rw [seq_tup h1] at hX
  rw [seq_tup h2] at hY
  exact add_tups R ia ib ra rb hz hX hY
theorem p27:(2:Int) ^ 27=134217728:=by decide
theorem addS_sound {x y:List Nat} (R:Rel G t st s) (hX:VRel t s.heap (.str x) v) (hY:VRel t s.heap (.str y) w) (hm:x.length + y.length≤sizeMax):Sim G A t s (binaryOp .Add v w) st (vrel (.str (x ++ y))):=by
 obtain ⟨k1,rfl⟩:=hX; obtain ⟨k2,rfl⟩:=hY
 intro Q E k
 refine PyProof.Rows.add_str (fun t' tk=>?_) ?_
 ·refine k _ t _ (Step.toks _ t s tk) (R.toks tk) ⟨t',?_⟩
  show Value.str (Str.mk x.toArray ++ Str.mk y.toArray) t'=_
  congr 1
  show Str.mk (x.toArray ++ y.toArray)=_
  simp
 ·simpa [Str.length,sizeMax,sizeLine] using hm
theorem bin_int {op:Operator}{f:Int→Int→Res V} (R:Rel G t st s) (hX:VRel t s.heap X v) (hY:VRel t s.heap Y w) (e:int2 X Y f=.ok Z st')
  (h:∀ x y,f x y=.ok Z st'→∃ z,(Z=.int z∧st'=st)∧∀ (k1 k2:Tok) (Q:Value→Shared→Prop) (E:Value→Shared→Prop),Q (.int z s.toks) { s with toks:=s.toks + 1 }→wpAny G.M A (binaryOp op (.int x k1) (.int y k2)) Q E s):Sim G A t s (binaryOp op v w) st' (vrel Z):=by
 obtain ⟨x,y,rfl,rfl,e⟩:=int2_ok e
 obtain ⟨z,⟨rfl,rfl⟩,hz⟩:=h x y e
 obtain ⟨k1,rfl⟩:=hX
 obtain ⟨k2,rfl⟩:=hY
 exact fun Q E k=>hz k1 k2 Q E (k _ t _ (Step.toks _ t s _) (R.toks _) ⟨_,rfl⟩)
theorem ifn_inv {β:Type}{c:Prop} [Decidable c] {x:Res β}{y:β}{s:MS} (e:(if c then .stuck else x)=.ok y s):¬ c∧x=.ok y s:=by
 by_cases h:c
 ·rw [if_pos h] at e; exact no_stuck e
 ·rw [if_neg h] at e; exact ⟨h,e⟩
theorem mul_ints (R:Rel G t st s) (hX:VRel t s.heap X v) (hY:VRel t s.heap Y w) (e:int2 X Y (fun x y=>if mulOk x y then .ok (.int (x * y)) st else .stuck)=.ok Z st'):Sim G A t s (binaryOp .Mult v w) st' (vrel Z) :=
 bin_int R hX hY e fun x y e=>⟨_,ok_inv (if_inv e).2,fun _ _ Q E q=>PyProof.Rows.mul_int q (mulOk_real (if_inv e).1)⟩
theorem add_ints (R:Rel G t st s) (hX:VRel t s.heap X v) (hY:VRel t s.heap Y w) (e:int2 X Y (fun x y=>.ok (.int (x + y)) st)=.ok Z st'):Sim G A t s (binaryOp .Add v w) st' (vrel Z) :=
 bin_int R hX hY e fun x y e=>⟨_,ok_inv e,fun _ _ Q E q=>PyProof.Rows.add_int q⟩
theorem fdiv_ints (R:Rel G t st s) (hX:VRel t s.heap X v) (hY:VRel t s.heap Y w) (e:binOp .fdiv X Y st=.ok Z st'):Sim G A t s (binaryOp .FloorDiv v w) st' (vrel Z) :=
 bin_int R hX hY e fun x y e=>⟨_,ok_inv (ifn_inv e).2,fun _ _ Q E q=>PyProof.Rows.floordiv_int (fun z=>(ifn_inv e).1 (.inl z)) q (.inl (noPylong fun z=>(ifn_inv e).1 (.inr z)))⟩
theorem mod_ints (R:Rel G t st s) (hX:VRel t s.heap X v) (hY:VRel t s.heap Y w) (e:binOp .mod X Y st=.ok Z st'):Sim G A t s (binaryOp .Mod v w) st' (vrel Z) :=
 bin_int R hX hY e fun x y e=>⟨_,ok_inv (ifn_inv e).2,fun _ _ Q E q=>PyProof.Rows.mod_int' (ifn_inv e).1 q⟩
theorem pow_ints (R:Rel G t st s) (hX:VRel t s.heap X v) (hY:VRel t s.heap Y w) (e:binOp .pow X Y st=.ok Z st'):Sim G A t s (binaryOp .Pow v w) st' (vrel Z) :=
 bin_int R hX hY e fun x y e=>⟨_,ok_inv (if_inv e).2,fun _ _ Q E q=>PyProof.Rows.pow_int (if_inv e).1.1 (by rw [← intBits_eq,p27]; exact (if_inv e).1.2) q⟩
theorem sub_ints (R:Rel G t st s) (hX:VRel t s.heap X v) (hY:VRel t s.heap Y w) (e:binOp .sub X Y st=.ok Z st'):Sim G A t s (binaryOp .Sub v w) st' (vrel Z) :=
 bin_int R hX hY e fun x y e=>⟨_,ok_inv e,fun _ _ Q E q=>PyProof.Rows.sub_int q⟩
theorem add_strs {x:List Nat} (R:Rel G t st s) (hX:VRel t s.heap (.str x) v) (hY:VRel t s.heap Y w) (e:str2 (.str x) Y (fun x y=>if x.length + y.length≤sizeMax then .ok (.str (x ++ y)) st else .stuck)=.ok Z st'):Sim G A t s (binaryOp .Add v w) st' (vrel Z):=by
 obtain ⟨x,y,ex,rfl,e⟩:=str2_ok e
 cases ex
 obtain ⟨hm,e⟩:=if_inv e
 obtain ⟨rfl,rfl⟩:=ok_inv e
 exact addS_sound R hX hY hm
theorem bin_sound {o:Bop} (O:G.Ok N) (R:Rel G t st s) (hA:AOk d A) (hX:VRel t s.heap X v) (hY:VRel t s.heap Y w) (e:binOp o X Y st=.ok Z st'):Sim G A t s (binaryOp (opOf o) v w) st' (vrel Z):=by
 cases o with
 | add =>
  cases X with
  | int x=>exact add_ints R hX hY e
  | str x=>exact add_strs R hX hY e
  | _=>exact seqAdd_sound R hX hY e
 | sub=>exact sub_ints R hX hY e
 | mul=>exact mul_ints R hX hY e
 | fdiv=>exact fdiv_ints R hX hY e
 | mod=>exact mod_ints R hX hY e
 | pow=>exact pow_ints R hX hY e
end
end Mine
end
section
namespace Mine
open PySem PySem.W PyProof.Rows PySem.SeqAt
section
variable {G:Gd}{N:Names}{C:Calls}{d:Dp}{sc:Sc}{Γ:Gam}
theorem truth_ok {X:V}{st st':MS}{b:Bool} (e:truth X st=.ok b st'):X=.bool b∧st'=st:=by
 cases X <;> first | (cases e; exact ⟨rfl,rfl⟩) | exact no_stuck e
theorem sim_neg {a:E}{x:PySem.Expr}{pos:Pos} (ha:SimE G C d sc Γ a x):SimE G C d sc Γ (.neg a) (.UnaryOp .USub x pos):=by
 intro t st s env loc X st' A hA hsc F R e Q E k
 rw [ev_neg] at e
 obtain ⟨v,s1,e1,e⟩:=Res.bind_ok e
 split at e
 ·cases e
  refine wpAny_UnaryOp (ha t st s env loc _ _ A hA hsc F R e1 _ _ fun y t1 σ1 S1 R1 r1=>?_)
  obtain ⟨k1,rfl⟩:=r1
  exact neg_int (k _ t1 _ (S1.trans (Step.toks _ t1 σ1 _)) (R1.toks _) ⟨_,rfl⟩)
 ·exact no_stuck e
theorem sim_not {a:E}{x:PySem.Expr}{pos:Pos} (ha:SimE G C d sc Γ a x):SimE G C d sc Γ (.not a) (.UnaryOp .Not x pos):=by
 intro t st s env loc X st' A hA hsc F R e Q E k
 rw [ev_not] at e
 obtain ⟨v,s1,e1,e⟩:=Res.bind_ok e
 obtain ⟨b,s2,e2,e⟩:=Res.bind_ok e
 obtain ⟨rfl,rfl⟩:=truth_ok e2
 cases e
 refine wpAny_UnaryOp (ha t st s env loc _ _ A hA hsc F R e1 _ _ fun y t1 σ1 S1 R1 r1=>?_)
 cases r1
 exact not_of (wpAny_truthy_bool (k _ t1 _ S1 R1 rfl))
theorem sim_bin (O:G.Ok N) {o:Bop}{a b:E}{x y:PySem.Expr}{pos:Pos} (ha:SimE G C d sc Γ a x) (hb:SimE G C d sc Γ b y):SimE G C d sc Γ (.bin o a b) (.BinOp x (opOf o) y pos):=by
 intro t st s env loc X st' A hA hsc F R e Q E k
 rw [ev_bin] at e
 obtain ⟨v1,s1,e1,e⟩:=Res.bind_ok e
 obtain ⟨v2,s2,e2,e⟩:=Res.bind_ok e
 refine wpAny_BinOp (ha t st s env loc _ _ A hA hsc F R e1 _ _ fun u t1 σ1 S1 R1 r1=>?_)
 refine hb t1 s1 σ1 env loc _ _ A hA hsc (F.step R S1) R1 e2 _ _ fun w t2 σ2 S2 R2 r2=>?_
 exact bin_sound O R2 hA (VRel.step S2 (fun _ z=>z.elim) _ r1) r2 e _ _ fun z t3 σ3 S3 R3 r3=>k z t3 σ3 ((S1.trans S2).trans S3) R3 r3
theorem sim_cmp {o:Cop}{a b:E}{x y:PySem.Expr}{pos:Pos} (hm:behindInMarks (cmpOf o) y=false) (ha:SimE G C d sc Γ a x) (hb:SimE G C d sc Γ b y):SimE G C d sc Γ (.cmp a o b) (.Compare x [cmpOf o] [y] pos):=by
 intro t st s env loc X st' A hA hsc F R e Q E k
 rw [ev_cmp] at e
 obtain ⟨v1,s1,e1,e⟩:=Res.bind_ok e
 obtain ⟨v2,s2,e2,e⟩:=Res.bind_ok e
 refine wpAny_Compare1 (ha t st s env loc _ _ A hA hsc F R e1 _ _ fun u t1 σ1 S1 R1 r1=>?_) hm
 refine hb t1 s1 σ1 env loc _ _ A hA hsc (F.step R S1) R1 e2 _ _ fun w t2 σ2 S2 R2 r2=>?_
 exact cmp_sound R2 hA (VRel.step S2 (fun _ z=>z.elim) _ r1) r2 e _ _ fun z t3 σ3 S3 R3 r3=>k z t3 σ3 ((S1.trans S2).trans S3) R3 r3
theorem chain2 (pos:Pos) (left:Value) (op op2:CmpOp) (r r2:Sem Value):compareChain pos left [op,op2] [r,r2]=(do
  let rv ← holding [left] r
  standAt pos
  let c ← holding [left,rv] (compareOp op left rv)
  release [left,rv] [c]
  if ← holding [c,rv] (truthy c) then compareChain pos rv [op2] [r2] else pure c):=rfl
theorem chain1 (pos:Pos) (left:Value) (op:CmpOp) (r:Sem Value):compareChain pos left [op] [r]=(do
  let rv ← holding [left] r
  standAt pos
  operate [left,rv] (compareOp op left rv)):=rfl
theorem sim_cmp2 {o o2:Cop}{a b c:E}{x y z:PySem.Expr}{pos:Pos} (hm:behindInMarks (cmpOf o2) z=false) (ha:SimE G C d sc Γ a x) (hb:SimE G C d sc Γ b y) (hc:SimE G C d sc Γ c z) :
  SimE G C d sc Γ (.cmp2 a o b o2 c) (.Compare x [cmpOf o,cmpOf o2] [y,z] pos):=by
 intro t st s env loc X st' A hA hsc F R e Q E k
 rw [ev_cmp2] at e
 obtain ⟨v1,s1,e1,e⟩:=Res.bind_ok e
 obtain ⟨v2,s2,e2,e⟩:=Res.bind_ok e
 obtain ⟨v3,s3,e3,e⟩:=Res.bind_ok e
 obtain ⟨b3,s4,e4,ee⟩:=Res.bind_ok e
 obtain ⟨rfl,rfl⟩:=truth_ok e4
 have mk:markedEach [cmpOf o,cmpOf o2] [y,z] (evalEach [y,z] env)=[eval y env,eval z env]:=by
  show eval y env :: [markedBehindIn (cmpOf o2) z (eval z env)]=_
  rw [markedBehindIn_of_false hm]
 show wpAny G.M A (do compareChain pos (← eval x env) [cmpOf o,cmpOf o2] (markedEach [cmpOf o,cmpOf o2] [y,z] (evalEach [y,z] env))) Q E s
 rw [mk]
 refine wpAny_bind (ha t st s env loc _ _ A hA hsc F R e1 _ _ fun u t1 σ1 S1 R1 r1=>?_)
 rw [chain2]
 refine wpAny_bind (wpAny_holding (hb t1 s1 σ1 env loc _ _ A hA hsc (F.step R S1) R1 e2 _ _ fun w t2 σ2 S2 R2 r2=>?_))
 refine wpAny_bind (wpAny_standAt (wpAny_bind (wpAny_holding ?_)))
 refine cmp_sound R2 hA (VRel.step S2 (fun _ z=>z.elim) _ r1) r2 e3 _ _ fun q t3 σ3 S3 R3 r3=>?_
 cases r3
 refine wpAny_bind (wpAny_release (wpAny_bind (wpAny_holding (wpAny_truthy_bool ?_))))
 cases b3 with
 | false =>
  simp only [Bool.false_eq_true,if_false] at ee ⊢
  cases ee
  exact wpAny_pure (k _ t3 σ3 ((S1.trans S2).trans S3) R3 rfl)
 | true =>
  simp only [if_true] at ee ⊢
  obtain ⟨v5,s5,e5,e6⟩:=Res.bind_ok ee
  rw [chain1]
  refine wpAny_bind (wpAny_holding (hc t3 _ σ3 env loc _ _ A hA hsc (((F.step R S1).step R1 S2).step R2 S3) R3 e5 _ _ fun w' t4 σ4 S4 R4 r4=>?_))
  refine wpAny_bind (wpAny_standAt (wpAny_operating ?_))
  exact cmp_sound R4 hA (VRel.step (S3.trans S4) (fun _ z=>z.elim) _ r2) r4 e6 _ _ fun z t5 σ5 S5 R5 r5=>k z t5 σ5 ((((S1.trans S2).trans S3).trans S4).trans S5) R5 r5
theorem isSame_b (v:Value) (b:Bool) (hv:∀ i,v≠.builtin i):isSame v (.bool b)=pure (v == .bool b):=by cases v <;> first | rfl | exact absurd rfl (hv _)
theorem VRel.notB {t:Tie}{h:Heap}{X:V}{v:Value} (r:VRel t h X v):∀ i,v≠.builtin i:=by
 intro i q
 subst q
 cases X with
 | none=>cases r
 | bool=>cases r
 | int=>obtain ⟨_,e⟩:=r; cases e
 | str=>obtain ⟨_,e⟩:=r; cases e
 | tup=>obtain ⟨_,_,e,_⟩:=r; cases e
 | lst=>obtain ⟨_,_,e,_⟩:=r; cases e
 | ref=>obtain ⟨_,e,_⟩:=r; cases e
 | exc=>obtain ⟨_,_,e,_⟩:=r; cases e
theorem sim_isN {n:Bool}{a:E}{x:PySem.Expr}{p:CmpOp}{pos p2:Pos}{j:Nat} (hp:isNot p n=true) (ha:SimE G C d sc Γ a x):SimE G C d sc Γ (.isC n a .none) (.Compare x [p] [.Constant .none j p2] pos):=by
 intro t st s env loc X st' A hA hsc F R e Q E k
 rw [ev_isC] at e
 obtain ⟨v,s1,e1,e⟩:=Res.bind_ok e
 cases e
 refine wpAny_Compare1 (ha t st s env loc _ _ A hA hsc F R e1 _ _ fun u t1 σ1 S1 R1 r1=>?_) rfl
 refine wpAny_Constant_none ?_
 have key:(u == Value.none)=decide (v=.none):=by
  cases v with
  | none=>cases r1; (first | exact (decide_eq_true rfl).symm | exact (decide_eq_false nofun).symm)
  | bool=>cases r1; (first | exact (decide_eq_true rfl).symm | exact (decide_eq_false nofun).symm)
  | int=>obtain ⟨_,rfl⟩:=r1; (first | exact (decide_eq_true rfl).symm | exact (decide_eq_false nofun).symm)
  | str=>obtain ⟨_,rfl⟩:=r1; (first | exact (decide_eq_true rfl).symm | exact (decide_eq_false nofun).symm)
  | tup=>obtain ⟨_,_,rfl,_⟩:=r1; (first | exact (decide_eq_true rfl).symm | exact (decide_eq_false nofun).symm)
  | lst=>obtain ⟨_,_,rfl,_⟩:=r1; (first | exact (decide_eq_true rfl).symm | exact (decide_eq_false nofun).symm)
  | ref=>obtain ⟨_,rfl,_⟩:=r1; (first | exact (decide_eq_true rfl).symm | exact (decide_eq_false nofun).symm)
  | exc=>obtain ⟨_,_,rfl,_⟩:=r1; (first | exact (decide_eq_true rfl).symm | exact (decide_eq_false nofun).symm)
 cases p <;> simp only [isNot] at hp <;> (try contradiction)
 ·have:n=false:=by simpa using hp
  subst this
  exact is_none (k _ t1 _ S1 R1 (by rw [key]; show Value.bool _=Value.bool _; congr 1; cases decide (v=V.none) <;> rfl))
 ·have:n=true:=hp
  subst this
  exact isNot_none (k _ t1 _ S1 R1 (by rw [key]; show Value.bool _=Value.bool _; congr 1; cases decide (v=V.none) <;> rfl))
theorem sim_isB {n b:Bool}{a:E}{x:PySem.Expr}{p:CmpOp}{pos p2:Pos}{j:Nat} (hp:isNot p n=true) (ha:SimE G C d sc Γ a x):SimE G C d sc Γ (.isC n a (.bool b)) (.Compare x [p] [.Constant (.bool b) j p2] pos):=by
 intro t st s env loc X st' A hA hsc F R e Q E k
 rw [ev_isC] at e
 obtain ⟨v,s1,e1,e⟩:=Res.bind_ok e
 cases e
 refine wpAny_Compare1 (ha t st s env loc _ _ A hA hsc F R e1 _ _ fun u t1 σ1 S1 R1 r1=>?_) rfl
 refine wpAny_Constant_bool ?_
 have key:(u == Value.bool b)=decide (v=.bool b):=by
  cases v with
  | bool c=>cases r1; cases b <;> cases c <;> first | exact (decide_eq_true rfl).symm | exact (decide_eq_false nofun).symm
  | none=>cases r1; (first | exact (decide_eq_true rfl).symm | exact (decide_eq_false nofun).symm)
  | int=>obtain ⟨_,rfl⟩:=r1; (first | exact (decide_eq_true rfl).symm | exact (decide_eq_false nofun).symm)
  | str=>obtain ⟨_,rfl⟩:=r1; (first | exact (decide_eq_true rfl).symm | exact (decide_eq_false nofun).symm)
  | tup=>obtain ⟨_,_,rfl,_⟩:=r1; (first | exact (decide_eq_true rfl).symm | exact (decide_eq_false nofun).symm)
  | lst=>obtain ⟨_,_,rfl,_⟩:=r1; (first | exact (decide_eq_true rfl).symm | exact (decide_eq_false nofun).symm)
  | ref=>obtain ⟨_,rfl,_⟩:=r1; (first | exact (decide_eq_true rfl).symm | exact (decide_eq_false nofun).symm)
  | exc=>obtain ⟨_,_,rfl,_⟩:=r1; (first | exact (decide_eq_true rfl).symm | exact (decide_eq_false nofun).symm)
 cases p <;> simp only [isNot] at hp <;> (try contradiction)
 ·have:n=false:=by simpa using hp
  subst this
  show wpAny G.M A (do return .bool (← isSame u (.bool b))) Q E σ1
  rw [isSame_b _ _ r1.notB]
  exact wpAny_bind (wpAny_pure (wpAny_pure (k _ t1 _ S1 R1 (by rw [key]; show Value.bool _=Value.bool _; congr 1; cases decide (v=V.bool b) <;> rfl))))
 ·have:n=true:=hp
  subst this
  show wpAny G.M A (do return .bool (!(← isSame u (.bool b)))) Q E σ1
  rw [isSame_b _ _ r1.notB]
  exact wpAny_bind (wpAny_pure (wpAny_pure (k _ t1 _ S1 R1 (by rw [key]; show Value.bool _=Value.bool _; congr 1; cases decide (v=V.bool b) <;> rfl))))
theorem sim_tup {l:List E}{m:List PySem.Expr}{j:Nat}{pos:Pos} (h:SimEs G C d sc Γ l m):SimE G C d sc Γ (.tup l) (.Tuple m j pos):=by
 intro t st s env loc X st' A hA hsc F R e Q E k
 rw [ev_tup] at e
 obtain ⟨vs,s1,e1,e⟩:=Res.bind_ok e
 split at e
 ·rename_i hz
  cases e
  refine wpAny_Tuple (h pos t st s env loc _ _ A hA hsc F R e1 _ _ fun ys t1 σ1 S1 R1 r1=>⟨by rw [r1.length]; exact hz,?_⟩)
  exact k _ t1 _ (S1.trans (Step.push R1 _)) (R1.push _) (VRel.newT R1 r1 hz)
 ·exact no_stuck e
theorem sim_lst {l:List E}{m:List PySem.Expr}{pos:Pos} (h:SimEs G C d sc Γ l m):SimE G C d sc Γ (.lst l) (.List m pos):=by
 intro t st s env loc X st' A hA hsc F R e Q E k
 rw [ev_lst] at e
 obtain ⟨vs,s1,e1,e⟩:=Res.bind_ok e
 split at e
 ·rename_i hz
  cases e
  refine wpAny_List (h pos t st s env loc _ _ A hA hsc F R e1 _ _ fun ys t1 σ1 S1 R1 r1=>⟨by rw [r1.length]; exact hz,?_⟩)
  exact k _ t1 _ (S1.trans (Step.push R1 _)) (R1.push _) (VRel.newL R1 r1 hz)
 ·exact no_stuck e
theorem Rel.size_sys (O:G.Ok N) {t:Tie}{st:MS}{s:Shared} (R:Rel G t st s):s.heap.objs.size≠sysModules:=by
 obtain ⟨mc,⟨o,es,ep,ho,_⟩,_⟩:=O.lim
 have:=Heap.lt_size (R.base _ _ ho)
 intro q
 rw [q] at this
 exact absurd this (by decide)
theorem sim_lstM (O:G.Ok N) {kd:Nat}{l:List E}{m:List PySem.Expr}{pos:Pos} (h:SimEs G C d sc Γ l m):SimE G C d sc Γ (.lstM kd l) (.List m pos):=by
 intro t st s env loc X st' A hA hsc F R e Q E k
 rw [ev_lstM] at e
 obtain ⟨vs,s1,e1,e⟩:=Res.bind_ok e
 split at e
 ·rename_i hz
  cases e
  refine wpAny_List (h pos t st s env loc _ _ A hA hsc F R e1 _ _ fun ys t1 σ1 S1 R1 r1=>⟨by rw [r1.length]; exact hz,?_⟩)
  have S2:=Step.bind (k:=kd) (d:=none) (s':={ σ1 with heap:=σ1.heap.push { cls:=.type "list",data:=.seq ys.toArray } }) R1 (fun _ _ e=>Heap.get?_push_of_some _ e) rfl rfl (size_none _) (fun x e=>by exact no_none e)
  have rho:(t1.bind (kd,s1.cnt kd) σ1.heap.objs.size none).ρ (kd,s1.cnt kd)=some σ1.heap.objs.size:=by simp [Tie.bind]
  refine k _ _ _ (S1.trans S2) (Rel.bind R1 (fun _ _ e=>Heap.get?_push_of_some _ e) rfl rfl (size_none _) (fun x e=>by exact no_none e) ?_ (R1.size_sys O) ⟨_,ys.toArray,rho,⟨_,Heap.get?_push_size _ rfl⟩,hz,VRels.step S2 (fun _ q=>q.elim) _ r1⟩) ⟨_,rfl,rho⟩
  show ((σ1.heap.push _).get? _).isSome=true; rw [Heap.get?_push_size _ rfl]; rfl
 ·exact no_stuck e
end
end Mine
end
section
namespace Mine
open PySem PySem.W PyProof.Rows PySem.SeqAt
noncomputable def SimT (G:Gd) (C:Calls) (d:Dp) (sc:Sc) (Γ:Gam) (e:E) (ast:PySem.Expr):Prop :=
 ∀ t st s env loc b st' A,AOk d A→env.scope.names=sc→FrOk G A t env Γ loc s→Rel G t st s→ev G.P C e loc st=.ok (.bool b) st'→Sim G A t s (isTrue ast env (eval ast env)) st' (fun _ _ b'=>b'=b)
inductive SimL (G:Gd) (C:Calls) (d:Dp) (sc:Sc) (Γ:Gam):List E→List PySem.Expr→Prop
 | nil:SimL G C d sc Γ [] []
 | cons {e:E}{l:List E}{x:PySem.Expr}{m:List PySem.Expr}:SimE G C d sc Γ e x→SimT G C d sc Γ e x→SimL G C d sc Γ l m→SimL G C d sc Γ (e :: l) (x :: m)
noncomputable def plainTest:PySem.Expr→Bool
 | .UnaryOp .Not _ _ | .BoolOp .. | .IfExp .. | .Compare ..=>false
 | _=>true
section
variable {G:Gd}{N:Names}{C:Calls}{d:Dp}{sc:Sc}{Γ:Gam}
set_option backward.match.sparseCases true in
theorem sim_and {pos:Pos}:∀ {l:List E}{m:List PySem.Expr},SimL G C d sc Γ l m→∀ t st s env loc X st' A,AOk d A→env.scope.names=sc→FrOk G A t env Γ loc s→Rel G t st s→evAnd G.P C l loc st=.ok X st' →
  Sim G A t s (boolOp pos .And (evalEach m env)) st' (vrel X)
 | [],_,_=>by intro t st s env loc X st' A hA hsc F R e; simp only [evAnd_nil,evAnd_one,evAnd_cons] at e; exact no_stuck e
 | [e],_,.cons he _ .nil=>by
  intro t st s env loc X st' A hA hsc F R q Q E k
  simp only [evAnd_nil,evAnd_one,evAnd_cons] at q
  exact he t st s env loc X st' A hA hsc F R q Q E k
 | e :: e' :: l,_,.cons he _ (.cons (x:=x') (m:=m') he' ht' r)=>by
  intro t st s env loc X st' A hA hsc F R q Q E k
  simp only [evAnd_nil,evAnd_one,evAnd_cons] at q
  obtain ⟨v,s1,q1,q⟩:=Res.bind_ok q
  obtain ⟨b,s2,q2,qq⟩:=Res.bind_ok q
  obtain ⟨rfl,rfl⟩:=truth_ok q2
  show wpAny G.M A (do
   let v ← eval _ env
   standAt pos
   let t ← holding [v] (truthy v)
   match BoolOp.And,t with
   | .And,false | .Or,true=>pure v
   | _,_=>boolOp pos .And (evalEach (x' :: m') env)) Q E s
  refine wpAny_bind (he t st s env loc _ _ A hA hsc F R q1 _ _ fun u t1 σ1 S1 R1 r1=>?_)
  cases r1
  refine wpAny_bind (wpAny_standAt (wpAny_bind (wpAny_holding (wpAny_truthy_bool ?_))))
  cases b with
  | false=>simp only [Bool.false_eq_true,if_false] at qq; cases qq; exact wpAny_pure (k _ t1 σ1 S1 R1 rfl)
  | true =>
   simp only [if_true] at qq
   exact sim_and (.cons he' ht' r) t1 _ σ1 env loc X st' A hA hsc (F.step R S1) R1 qq Q E fun u t2 σ2 S2 R2 r2=>k u t2 σ2 (S1.trans S2) R2 r2
set_option backward.match.sparseCases true in
theorem sim_or {pos:Pos}:∀ {l:List E}{m:List PySem.Expr},SimL G C d sc Γ l m→∀ t st s env loc X st' A,AOk d A→env.scope.names=sc→FrOk G A t env Γ loc s→Rel G t st s→evOr G.P C l loc st=.ok X st' →
  Sim G A t s (boolOp pos .Or (evalEach m env)) st' (vrel X)
 | [],_,_=>by intro t st s env loc X st' A hA hsc F R e; simp only [evOr_nil,evOr_one,evOr_cons] at e; exact no_stuck e
 | [e],_,.cons he _ .nil=>by
  intro t st s env loc X st' A hA hsc F R q Q E k
  simp only [evOr_nil,evOr_one,evOr_cons] at q
  exact he t st s env loc X st' A hA hsc F R q Q E k
 | e :: e' :: l,_,.cons he _ (.cons (x:=x') (m:=m') he' ht' r)=>by
  intro t st s env loc X st' A hA hsc F R q Q E k
  simp only [evOr_nil,evOr_one,evOr_cons] at q
  obtain ⟨v,s1,q1,q⟩:=Res.bind_ok q
  obtain ⟨b,s2,q2,qq⟩:=Res.bind_ok q
  obtain ⟨rfl,rfl⟩:=truth_ok q2
  show wpAny G.M A (do
   let v ← eval _ env
   standAt pos
   let t ← holding [v] (truthy v)
   match BoolOp.Or,t with
   | .And,false | .Or,true=>pure v
   | _,_=>boolOp pos .Or (evalEach (x' :: m') env)) Q E s
  refine wpAny_bind (he t st s env loc _ _ A hA hsc F R q1 _ _ fun u t1 σ1 S1 R1 r1=>?_)
  cases r1
  refine wpAny_bind (wpAny_standAt (wpAny_bind (wpAny_holding (wpAny_truthy_bool ?_))))
  cases b with
  | true=>simp only [if_true] at qq; cases qq; exact wpAny_pure (k _ t1 σ1 S1 R1 rfl)
  | false =>
   simp only [Bool.false_eq_true,if_false] at qq
   exact sim_or (.cons he' ht' r) t1 _ σ1 env loc X st' A hA hsc (F.step R S1) R1 qq Q E fun u t2 σ2 S2 R2 r2=>k u t2 σ2 (S1.trans S2) R2 r2
theorem simE_and {l:List E}{m:List PySem.Expr}{pos:Pos} (h:SimL G C d sc Γ l m):SimE G C d sc Γ (.and l) (.BoolOp .And m pos):=by
 intro t st s env loc X st' A hA hsc F R e
 rw [ev_and] at e
 exact sim_and h t st s env loc X st' A hA hsc F R e
theorem simE_or {l:List E}{m:List PySem.Expr}{pos:Pos} (h:SimL G C d sc Γ l m):SimE G C d sc Γ (.or l) (.BoolOp .Or m pos):=by
 intro t st s env loc X st' A hA hsc F R e
 rw [ev_or] at e
 exact sim_or h t st s env loc X st' A hA hsc F R e
theorem simT_plain {e:E}{x:PySem.Expr} (hx:plainTest x=true) (h:SimE G C d sc Γ e x):SimT G C d sc Γ e x:=by
 intro t st s env loc b st' A hA hsc F R q Q E k
 have he:isTrue x env (eval x env)=(do let v ← eval x env; standAt x.pos; holding [v] (truthy v)):=by
  cases x <;> first | rfl | (cases hx; done) | skip
  rename_i op _ _
  cases op <;> first | rfl | exact no_ft hx
 rw [he]
 refine wpAny_bind (h t st s env loc _ _ A hA hsc F R q _ _ fun u t1 σ1 S1 R1 r1=>?_)
 cases r1
 exact wpAny_bind (wpAny_standAt (wpAny_holding (wpAny_truthy_bool (k _ t1 σ1 S1 R1 rfl))))
theorem simT_not {a:E}{x:PySem.Expr}{pos:Pos} (ha:SimT G C d sc Γ a x):SimT G C d sc Γ (.not a) (.UnaryOp .Not x pos):=by
 intro t st s env loc b st' A hA hsc F R e Q E k
 rw [ev_not] at e
 obtain ⟨v,s1,e1,e⟩:=Res.bind_ok e
 obtain ⟨c,s2,e2,ee⟩:=Res.bind_ok e
 obtain ⟨rfl,rfl⟩:=truth_ok e2
 cases ee
 refine wpAny_isTrue_Not (ha t st s env loc _ _ A hA hsc F R e1 _ _ fun u t1 σ1 S1 R1 r1=>?_)
 subst r1
 exact k _ t1 σ1 S1 R1 rfl
theorem simT_and:∀ {l:List E}{m:List PySem.Expr},SimL G C d sc Γ l m→∀ t st s env loc b st' A,AOk d A→env.scope.names=sc→FrOk G A t env Γ loc s→Rel G t st s→evAnd G.P C l loc st=.ok (.bool b) st' →
  Sim G A t s (PySem.allTrue .And m env) st' (fun _ _ b'=>b'=b)
 | [],_,_=>by intro t st s env loc X st' A hA hsc F R e; simp only [evAnd_nil,evAnd_one,evAnd_cons] at e; exact no_stuck e
 | [e],_,.cons (x:=x) he ht .nil=>by
  intro t st s env loc b st' A hA hsc F R q Q E k
  simp only [evAnd_nil,evAnd_one,evAnd_cons] at q
  refine wpAny_allTrue_And_cons (ht t st s env loc b st' A hA hsc F R q _ _ fun u t1 σ1 S1 R1 r1=>?_)
  subst r1
  cases u with
  | false=>exact k _ t1 σ1 S1 R1 rfl
  | true=>exact wpAny_allTrue_And_nil (k _ t1 σ1 S1 R1 rfl)
 | e :: e' :: l,_,.cons he ht (.cons (x:=x') (m:=m') he' ht' r)=>by
  intro t st s env loc b st' A hA hsc F R q Q E k
  simp only [evAnd_nil,evAnd_one,evAnd_cons] at q
  obtain ⟨v,s1,q1,q⟩:=Res.bind_ok q
  obtain ⟨c,s2,q2,qq⟩:=Res.bind_ok q
  obtain ⟨rfl,rfl⟩:=truth_ok q2
  refine wpAny_allTrue_And_cons (ht t st s env loc _ _ A hA hsc F R q1 _ _ fun u t1 σ1 S1 R1 r1=>?_)
  subst r1
  cases u with
  | false=>simp only [Bool.false_eq_true,if_false] at qq; cases qq; exact k _ t1 σ1 S1 R1 rfl
  | true =>
   simp only [if_true] at qq
   exact simT_and (.cons he' ht' r) t1 _ σ1 env loc b st' A hA hsc (F.step R S1) R1 qq Q E fun u t2 σ2 S2 R2 r2=>k u t2 σ2 (S1.trans S2) R2 r2
theorem simT_or:∀ {l:List E}{m:List PySem.Expr},SimL G C d sc Γ l m→∀ t st s env loc b st' A,AOk d A→env.scope.names=sc→FrOk G A t env Γ loc s→Rel G t st s→evOr G.P C l loc st=.ok (.bool b) st' →
  Sim G A t s (PySem.allTrue .Or m env) st' (fun _ _ b'=>b'=b)
 | [],_,_=>by intro t st s env loc X st' A hA hsc F R e; simp only [evOr_nil,evOr_one,evOr_cons] at e; exact no_stuck e
 | [e],_,.cons (x:=x) he ht .nil=>by
  intro t st s env loc b st' A hA hsc F R q Q E k
  simp only [evOr_nil,evOr_one,evOr_cons] at q
  refine wpAny_allTrue_Or_cons (ht t st s env loc b st' A hA hsc F R q _ _ fun u t1 σ1 S1 R1 r1=>?_)
  subst r1
  cases u with
  | true=>exact k _ t1 σ1 S1 R1 rfl
  | false=>exact wpAny_allTrue_Or_nil (k _ t1 σ1 S1 R1 rfl)
 | e :: e' :: l,_,.cons he ht (.cons (x:=x') (m:=m') he' ht' r)=>by
  intro t st s env loc b st' A hA hsc F R q Q E k
  simp only [evOr_nil,evOr_one,evOr_cons] at q
  obtain ⟨v,s1,q1,q⟩:=Res.bind_ok q
  obtain ⟨c,s2,q2,qq⟩:=Res.bind_ok q
  obtain ⟨rfl,rfl⟩:=truth_ok q2
  refine wpAny_allTrue_Or_cons (ht t st s env loc _ _ A hA hsc F R q1 _ _ fun u t1 σ1 S1 R1 r1=>?_)
  subst r1
  cases u with
  | true=>simp only [if_true] at qq; cases qq; exact k _ t1 σ1 S1 R1 rfl
  | false =>
   simp only [Bool.false_eq_true,if_false] at qq
   exact simT_or (.cons he' ht' r) t1 _ σ1 env loc b st' A hA hsc (F.step R S1) R1 qq Q E fun u t2 σ2 S2 R2 r2=>k u t2 σ2 (S1.trans S2) R2 r2
theorem simTE_and {l:List E}{m:List PySem.Expr}{pos:Pos} (h:SimL G C d sc Γ l m):SimT G C d sc Γ (.and l) (.BoolOp .And m pos):=by
 intro t st s env loc X st' A hA hsc F R e
 rw [ev_and] at e
 exact simT_and h t st s env loc X st' A hA hsc F R e
theorem simTE_or {l:List E}{m:List PySem.Expr}{pos:Pos} (h:SimL G C d sc Γ l m):SimT G C d sc Γ (.or l) (.BoolOp .Or m pos):=by
 intro t st s env loc X st' A hA hsc F R e
 rw [ev_or] at e
 exact simT_or h t st s env loc X st' A hA hsc F R e
theorem testChain1 {M:Model}{A:Around}{E:Value→Shared→Prop}{s:Shared}{env:Env}{x y:PySem.Expr}{op:CmpOp}{pos:Pos}{Q:Bool→Shared→Prop} (hm:behindInMarks op y=false)
  (h:wpAny M A (eval x env) (fun a s₁=>wpAny M A (eval y env) (fun b s₂=>wpAny M A (compareOp op a b) (fun c s₃=>∃ z,c=.bool z∧Q z s₃) E s₂) E s₁) E s) :
  wpAny M A (isTrue (.Compare x [op] [y] pos) env (eval (.Compare x [op] [y] pos) env)) Q E s:=by
 refine wpAny_isTrue_Compare1 (wpAny_mono h (fun a s₁ h₁=>wpAny_mono h₁ (fun b s₂ h₂=>wpAny_mono h₂ (fun c s₃ h₃=>?_) fun _ _ e=>e) fun _ _ e=>e) fun _ _ e=>e) hm
 obtain ⟨z,rfl,hz⟩:=h₃
 exact wpAny_truthy_bool hz
theorem simT_cmp {o:Cop}{a b:E}{x y:PySem.Expr}{pos:Pos} (hm:behindInMarks (cmpOf o) y=false) (ha:SimE G C d sc Γ a x) (hb:SimE G C d sc Γ b y):SimT G C d sc Γ (.cmp a o b) (.Compare x [cmpOf o] [y] pos):=by
 intro t st s env loc c st' A hA hsc F R e Q E k
 rw [ev_cmp] at e
 obtain ⟨v1,s1,e1,e⟩:=Res.bind_ok e
 obtain ⟨v2,s2,e2,e⟩:=Res.bind_ok e
 refine testChain1 hm (ha t st s env loc _ _ A hA hsc F R e1 _ _ fun u t1 σ1 S1 R1 r1=>?_)
 refine hb t1 s1 σ1 env loc _ _ A hA hsc (F.step R S1) R1 e2 _ _ fun w t2 σ2 S2 R2 r2=>?_
 exact cmp_sound R2 hA (VRel.step S2 (fun _ z=>z.elim) _ r1) r2 e _ _ fun z t3 σ3 S3 R3 r3=>⟨c,r3,k c t3 σ3 ((S1.trans S2).trans S3) R3 rfl⟩
theorem test2 (pos:Pos) (left:Value) (op op2:CmpOp) (r r2:Sem Value):testChain pos left [op,op2] [r,r2]=(do
  let rv ← holding [left] r
  standAt pos
  let c ← holding [left,rv] (compareOp op left rv)
  release [left,rv] [c]
  if ← holding [c,rv] (truthy c) then testChain pos rv [op2] [r2] else pure false):=rfl
theorem test1 (pos:Pos) (left:Value) (op:CmpOp) (r:Sem Value):testChain pos left [op] [r]=(do
  let rv ← holding [left] r
  standAt pos
  let c ← operate [left,rv] (compareOp op left rv)
  holding [c] (truthy c)):=rfl
theorem simT_cmp2 {o o2:Cop}{a b c:E}{x y z:PySem.Expr}{pos:Pos} (hm:behindInMarks (cmpOf o2) z=false) (ha:SimE G C d sc Γ a x) (hb:SimE G C d sc Γ b y) (hc:SimE G C d sc Γ c z) :
  SimT G C d sc Γ (.cmp2 a o b o2 c) (.Compare x [cmpOf o,cmpOf o2] [y,z] pos):=by
 intro t st s env loc X st' A hA hsc F R e Q E k
 rw [ev_cmp2] at e
 obtain ⟨v1,s1,e1,e⟩:=Res.bind_ok e
 obtain ⟨v2,s2,e2,e⟩:=Res.bind_ok e
 obtain ⟨v3,s3,e3,e⟩:=Res.bind_ok e
 obtain ⟨b3,s4,e4,ee⟩:=Res.bind_ok e
 obtain ⟨rfl,rfl⟩:=truth_ok e4
 have mk:markedEach [cmpOf o,cmpOf o2] [y,z] (evalEach [y,z] env)=[eval y env,eval z env]:=by
  show eval y env :: [markedBehindIn (cmpOf o2) z (eval z env)]=_
  rw [markedBehindIn_of_false hm]
 show wpAny G.M A (do testChain pos (← eval x env) [cmpOf o,cmpOf o2] (markedEach [cmpOf o,cmpOf o2] [y,z] (evalEach [y,z] env))) Q E s
 rw [mk]
 refine wpAny_bind (ha t st s env loc _ _ A hA hsc F R e1 _ _ fun u t1 σ1 S1 R1 r1=>?_)
 rw [test2]
 refine wpAny_bind (wpAny_holding (hb t1 s1 σ1 env loc _ _ A hA hsc (F.step R S1) R1 e2 _ _ fun w t2 σ2 S2 R2 r2=>?_))
 refine wpAny_bind (wpAny_standAt (wpAny_bind (wpAny_holding ?_)))
 refine cmp_sound R2 hA (VRel.step S2 (fun _ z=>z.elim) _ r1) r2 e3 _ _ fun q t3 σ3 S3 R3 r3=>?_
 cases r3
 refine wpAny_bind (wpAny_release (wpAny_bind (wpAny_holding (wpAny_truthy_bool ?_))))
 cases b3 with
 | false =>
  simp only [Bool.false_eq_true,if_false] at ee ⊢
  cases ee
  exact wpAny_pure (k _ t3 σ3 ((S1.trans S2).trans S3) R3 rfl)
 | true =>
  simp only [if_true] at ee ⊢
  obtain ⟨v5,s5,e5,e6⟩:=Res.bind_ok ee
  rw [test1]
  refine wpAny_bind (wpAny_holding (hc t3 _ σ3 env loc _ _ A hA hsc (((F.step R S1).step R1 S2).step R2 S3) R3 e5 _ _ fun w' t4 σ4 S4 R4 r4=>?_))
  refine wpAny_bind (wpAny_standAt (wpAny_bind (wpAny_operating ?_)))
  refine cmp_sound R4 hA (VRel.step (S3.trans S4) (fun _ z=>z.elim) _ r2) r4 e6 _ _ fun z t5 σ5 S5 R5 r5=>?_
  cases r5
  exact wpAny_holding (wpAny_truthy_bool (k _ t5 σ5 ((((S1.trans S2).trans S3).trans S4).trans S5) R5 rfl))
theorem isN_op {n:Bool}{p:CmpOp}{A:Around}{t:Tie}{s:Shared}{v:V}{u:Value}{Q:Value→Shared→Prop}{E:Value→Shared→Prop} (hp:isNot p n=true) (r1:VRel t s.heap v u) (h:Q (.bool (decide (v=.none) != n)) s):wpAny G.M A (compareOp p u .none) Q E s:=by
 have key:(u == Value.none)=decide (v=.none):=by
  cases v with
  | none=>cases r1; (first | exact (decide_eq_true rfl).symm | exact (decide_eq_false nofun).symm)
  | bool=>cases r1; (first | exact (decide_eq_true rfl).symm | exact (decide_eq_false nofun).symm)
  | int=>obtain ⟨_,rfl⟩:=r1; (first | exact (decide_eq_true rfl).symm | exact (decide_eq_false nofun).symm)
  | str=>obtain ⟨_,rfl⟩:=r1; (first | exact (decide_eq_true rfl).symm | exact (decide_eq_false nofun).symm)
  | tup=>obtain ⟨_,_,rfl,_⟩:=r1; (first | exact (decide_eq_true rfl).symm | exact (decide_eq_false nofun).symm)
  | lst=>obtain ⟨_,_,rfl,_⟩:=r1; (first | exact (decide_eq_true rfl).symm | exact (decide_eq_false nofun).symm)
  | ref=>obtain ⟨_,rfl,_⟩:=r1; (first | exact (decide_eq_true rfl).symm | exact (decide_eq_false nofun).symm)
  | exc=>obtain ⟨_,_,rfl,_⟩:=r1; (first | exact (decide_eq_true rfl).symm | exact (decide_eq_false nofun).symm)
 cases p <;> simp only [isNot] at hp <;> (try contradiction)
 ·have:n=false:=by simpa using hp
  subst this
  exact is_none (by rw [key]; revert h; cases decide (v=V.none) <;> exact id)
 ·have:n=true:=hp
  subst this
  exact isNot_none (by rw [key]; revert h; cases decide (v=V.none) <;> exact id)
theorem isB_op {n b:Bool}{p:CmpOp}{A:Around}{t:Tie}{s:Shared}{v:V}{u:Value}{Q:Value→Shared→Prop}{E:Value→Shared→Prop} (hp:isNot p n=true) (r1:VRel t s.heap v u) (h:Q (.bool (decide (v=.bool b) != n)) s):wpAny G.M A (compareOp p u (.bool b)) Q E s:=by
 have key:(u == Value.bool b)=decide (v=.bool b):=by
  cases v with
  | bool c=>cases r1; cases b <;> cases c <;> first | exact (decide_eq_true rfl).symm | exact (decide_eq_false nofun).symm
  | none=>cases r1; (first | exact (decide_eq_true rfl).symm | exact (decide_eq_false nofun).symm)
  | int=>obtain ⟨_,rfl⟩:=r1; (first | exact (decide_eq_true rfl).symm | exact (decide_eq_false nofun).symm)
  | str=>obtain ⟨_,rfl⟩:=r1; (first | exact (decide_eq_true rfl).symm | exact (decide_eq_false nofun).symm)
  | tup=>obtain ⟨_,_,rfl,_⟩:=r1; (first | exact (decide_eq_true rfl).symm | exact (decide_eq_false nofun).symm)
  | lst=>obtain ⟨_,_,rfl,_⟩:=r1; (first | exact (decide_eq_true rfl).symm | exact (decide_eq_false nofun).symm)
  | ref=>obtain ⟨_,rfl,_⟩:=r1; (first | exact (decide_eq_true rfl).symm | exact (decide_eq_false nofun).symm)
  | exc=>obtain ⟨_,_,rfl,_⟩:=r1; (first | exact (decide_eq_true rfl).symm | exact (decide_eq_false nofun).symm)
 cases p <;> simp only [isNot] at hp <;> (try contradiction)
 ·have:n=false:=by simpa using hp
  subst this
  show wpAny G.M A (do return .bool (← isSame u (.bool b))) Q E s
  rw [isSame_b _ _ r1.notB]
  exact wpAny_bind (wpAny_pure (wpAny_pure (by rw [key]; revert h; cases decide (v=V.bool b) <;> exact id)))
 ·have:n=true:=hp
  subst this
  show wpAny G.M A (do return .bool (!(← isSame u (.bool b)))) Q E s
  rw [isSame_b _ _ r1.notB]
  exact wpAny_bind (wpAny_pure (wpAny_pure (by rw [key]; revert h; cases decide (v=V.bool b) <;> exact id)))
theorem simT_isN {n:Bool}{a:E}{x:PySem.Expr}{p:CmpOp}{pos p2:Pos}{j:Nat} (hp:isNot p n=true) (ha:SimE G C d sc Γ a x):SimT G C d sc Γ (.isC n a .none) (.Compare x [p] [.Constant .none j p2] pos):=by
 intro t st s env loc c st' A hA hsc F R e Q E k
 rw [ev_isC] at e
 obtain ⟨v,s1,e1,e⟩:=Res.bind_ok e
 cases e
 refine testChain1 rfl (ha t st s env loc _ _ A hA hsc F R e1 _ _ fun u t1 σ1 S1 R1 r1=>?_)
 exact wpAny_Constant_none (isN_op hp r1 ⟨_,rfl,k _ t1 σ1 S1 R1 rfl⟩)
theorem simT_isB {n b:Bool}{a:E}{x:PySem.Expr}{p:CmpOp}{pos p2:Pos}{j:Nat} (hp:isNot p n=true) (ha:SimE G C d sc Γ a x):SimT G C d sc Γ (.isC n a (.bool b)) (.Compare x [p] [.Constant (.bool b) j p2] pos):=by
 intro t st s env loc c st' A hA hsc F R e Q E k
 rw [ev_isC] at e
 obtain ⟨v,s1,e1,e⟩:=Res.bind_ok e
 cases e
 refine testChain1 rfl (ha t st s env loc _ _ A hA hsc F R e1 _ _ fun u t1 σ1 S1 R1 r1=>?_)
 exact wpAny_Constant_bool (isB_op hp r1 ⟨_,rfl,k _ t1 σ1 S1 R1 rfl⟩)
end
end Mine
end
section
namespace Mine
open PySem PySem.W PyProof.Rows PySem.SeqAt
section
variable {G:Gd}{N:Names}{C:Calls}{d:Dp}{sc:Sc}{Γ:Gam}{t:Tie}{st st':MS}{s:Shared}{A:Around}{X Y Z:V}{v w:Value}
theorem idx_inv {i:Int}{n j:Nat} (e:idx i n=some j):(0≤i∧i < n∧j=i.toNat)∨(i < 0∧0≤i + n∧j=(i + n).toNat):=by
 have e:(if 0≤i then (if i < n then some i.toNat else Option.none) else (if 0≤i + n then some (i + n).toNat else Option.none))=some j:=e
 by_cases h:0≤i
 ·rw [if_pos h] at e
  by_cases h2:i < n
  ·rw [if_pos h2] at e; cases e; exact .inl ⟨h,h2,rfl⟩
  ·rw [if_neg h2] at e; exact no_none e
 ·rw [if_neg h] at e
  by_cases h2:0≤i + n
  ·rw [if_pos h2] at e; cases e; exact .inr ⟨Int.lt_of_not_ge h,h2,rfl⟩
  ·rw [if_neg h2] at e; exact no_none e
theorem seqIndex_at {i k:Int}{n:Nat} (h:(if i < 0 then i + n else i)=k) (h0:0≤k) (h1:k < n):seqIndex? i n=some k.toNat∧k.toNat < n:=by
 have e:seqIndex? i n=if (decide (0≤(if i < 0 then i + n else i)) && decide ((if i < 0 then i + n else i) < (n:Int)))=true then some (if i < 0 then i + n else i).toNat else none:=rfl
 rw [e,h,decide_eq_true h0,decide_eq_true h1]
 exact ⟨rfl,(Int.toNat_lt h0).2 h1⟩
theorem idx_seqIndex {i:Int}{n j:Nat} (e:idx i n=some j):seqIndex? i n=some j∧j < n:=by
 rcases idx_inv e with ⟨h1,h2,rfl⟩ | ⟨h1,h2,rfl⟩
 ·exact seqIndex_at (if_neg (Int.not_lt.2 h1)) h1 h2
 ·exact seqIndex_at (if_pos h1) h2 (by lia)
noncomputable def notSlice (x:PySem.Expr):Bool:=!Nat.beq x.ctorIdx 26
theorem subscripted_plain {slice:PySem.Expr} (h:notSlice slice=true) (o i:Value):subscripted slice false o i=operate [o,i] (PySem.getItem o i):=by
 cases slice <;> first | rfl | exact no_ft h
theorem idx_bd {i:Int}{n j:Nat} (h:idx i n=some j) (hn:n≤sizeMax):-(2 ^ 63:Int)≤i∧i < 2 ^ 63:=by
 have hn:n≤16777216:=hn
 have h:-(n:Int)≤i∧i < n:=by rcases idx_inv h with h | h <;> omega
 omega
theorem idx_in {i:Int}{n j:Nat} (h:idx i n=some j) (hn:n≤sizeMax):(decide (i < -(2 ^ 63)) || decide (i ≥ 2 ^ 63))=false:=by
 obtain ⟨h1,h2⟩:=idx_bd h hn
 rw [decide_eq_false (Int.not_lt.2 h1),decide_eq_false (Int.not_le.2 h2)]; rfl
theorem idx_to {i:Int}{n j:Nat} (h:idx i n=some j) (h0:0≤i):j=i.toNat:=by
 rcases idx_inv h with ⟨_,_,h⟩ | ⟨h,_⟩
 ·exact h
 ·exact absurd h0 (Int.not_le.2 h)
theorem isKey_inv {b:V} (h:b.isKey=true):∃ x,b=.str x:=by
 cases b with
 | str x=>exact ⟨x,rfl⟩
 | _=>exact no_ft h
theorem dict_inv {α β:Type}{h:Option MObj}{f:List (V×V)→Res β}{y:β}{s:MS} (e:(match h with | some (.dict l)=>f l | _=>.stuck)=.ok y s):∃ l,h=some (.dict l)∧f l=.ok y s:=by
 cases h with
 | none=>exact no_stuck e
 | some o=>cases o with
  | dict l=>exact ⟨l,rfl,e⟩
  | _=>exact no_stuck e
theorem key_inv {X Y Z:V}{st st':MS} (e:(match X with
  | .ref r=>match st.heap r with
   | some (.dict l)=>if Y.isKey then okV st (dfind Y l) else .stuck
   | _=>.stuck
  | _=>.stuck)=.ok Z st'):∃ x r l,Y=.str x∧X=.ref r∧st.heap r=some (.dict l)∧dfind (.str x) l=some Z∧st'=st:=by
 cases X with
 | ref r =>
  obtain ⟨l,h1,h2⟩:=dict_inv (α:=V) e
  by_cases hk:Y.isKey=true
  ·rw [if_pos hk] at h2
   obtain ⟨x,rfl⟩:=isKey_inv hk
   obtain ⟨h3,h4⟩:=okV_inv h2
   exact ⟨x,r,l,rfl,rfl,h1,h3,h4⟩
  ·rw [if_neg hk] at h2; exact no_stuck h2
 | _=>exact no_stuck e
theorem at_inv {X Z:V}{i:Int}{st st':MS} (e:(match seqOf st X with
  | some (_,l)=>okV st ((idx i l.length).bind fun j=>l[j]?)
  | Option.none=>.stuck)=.ok Z st'):∃ k l j,seqOf st X=some (k,l)∧idx i l.length=some j∧l[j]?=some Z∧st'=st:=by
 cases h:seqOf st X with
 | none=>rw [h] at e; exact no_stuck e
 | some p =>
  rw [h] at e
  obtain ⟨h1,h2⟩:=okV_inv e
  obtain ⟨j,h3,h4⟩:=Option.bind_eq_some_iff.mp h1
  exact ⟨p.1,p.2,j,rfl,h3,h4,h2⟩
theorem stri_inv {x:List Nat}{i:Int}{Z:V}{st st':MS} (e:getItem (.str x) (.int i) st=.ok Z st'):x.length≤sizeMax∧∃ j c,idx i x.length=some j∧x[j]?=some c∧Z=.str [c]∧st'=st:=by
 have e:(if x.length≤sizeMax then okV st ((idx i x.length).bind fun j=>(x[j]?).map fun c=>.str [c]) else .stuck)=.ok Z st':=e
 by_cases hz:x.length≤sizeMax
 ·rw [if_pos hz] at e
  obtain ⟨ez,h⟩:=okV_inv e
  obtain ⟨j,h1,h2⟩:=Option.bind_eq_some_iff.mp ez
  obtain ⟨c,h3,h4⟩:=Option.map_eq_some_iff.mp h2
  exact ⟨hz,j,c,h1,h3,h4.symm,h⟩
 ·rw [if_neg hz] at e; exact no_stuck e
theorem item_str {value slice:PySem.Expr}{x:List Nat}{i:Int}{kx ki:Tok} (hs:notSlice slice=true) (R:Rel G t st s) (e:getItem (.str x) (.int i) st=.ok Z st'):Sim G A t s (subscriptTail value slice (.str (toStr x) kx) (.int i ki)) st' (vrel Z):=by
 obtain ⟨hz,j,c,h1,h3,rfl,rfl⟩:=stri_inv e
 intro Q E q
 refine tail_any (typeIs_str s _ kx) PySem.F.slot_str_getitem.lookup (PyProof.Rows.getItem_str (c:=c) (idx_in h1 hz) ?_ (q _ t _ (Step.toks _ t s _) (R.toks _) ⟨_,rfl⟩)) (subscripted_plain hs _ _)
 rw [show (toStr x).length=x.length from rfl,(idx_seqIndex h1).1,Option.bind_some]
 exact List.getElem?_toArray.trans h3
theorem item_list {value slice:PySem.Expr}{l:List V}{i:Int}{ki:Tok}{a:Addr}{vs:Array Value}{j:Nat} (hs:notSlice slice=true) (R:Rel G t st s) (ia:PL s.heap a vs) (ra:VRels t s.heap l vs.toList) (sz:l.length≤sizeMax) (h1:idx i l.length=some j) (h2:l[j]?=some Z) :
  Sim G A t s (subscriptTail value slice (.ref a) (.int i ki)) st (vrel Z):=by
 obtain ⟨y,h6,h7⟩:=ra.get h2
 have hbd:=idx_bd h1 sz
 intro Q E q
 refine tail_any ia.isList.typeIs slot_list_getitem.lookup ?_ (subscripted_plain hs _ _)
 by_cases h0:0≤i
 ·cases idx_to h1 h0
  exact wpAny_getItem_list ia.isList h0 hbd.2 (Array.getElem?_toList.symm.trans h6) (q _ t s (.refl _ _ _) R h7)
 ·rw [show vs=vs.toList.toArray from Array.toArray_toList.symm] at ia
  exact kde_getNeg ia.isList (Int.lt_of_not_ge h0) hbd.1 (by rw [ra.length]; exact (idx_seqIndex h1).1) h6 (q _ t s (.refl _ _ _) R h7)
theorem item_tup {value slice:PySem.Expr}{l:List V}{i:Int}{ki:Tok}{a:Addr}{vs:Array Value}{j:Nat} (hs:notSlice slice=true) (R:Rel G t st s) (ia:PT s.heap a vs) (ra:VRels t s.heap l vs.toList) (sz:l.length≤sizeMax) (h1:idx i l.length=some j) (h2:l[j]?=some Z) :
  Sim G A t s (subscriptTail value slice (.ref a) (.int i ki)) st (vrel Z):=by
 obtain ⟨y,h6,h7⟩:=ra.get h2
 have hbd:=idx_bd h1 sz
 obtain ⟨n,ha⟩:=ia
 intro Q E q
 exact tail_any ⟨_,ha,rfl⟩ PySem.F.slot_tuple_getitem.lookup (P.getItem_tuple ha (Int.le_trans (by decide) hbd.1) hbd.2 (by rw [show vs.size=_ from ra.length]; exact (idx_seqIndex h1).1) (Array.getElem?_toList.symm.trans h6) (q _ t s (.refl _ _ _) R h7)) (subscripted_plain hs _ _)
theorem item_key {value slice:PySem.Expr}{x:List Nat}{k:Tok}{r:Lbl}{dd:List (V×V)} (hs:notSlice slice=true) (R:Rel G t st s) (hX:VRel t s.heap (.ref r) v) (hd:st.heap r=some (.dict dd)) (ez:dfind (.str x) dd=some Z) :
  Sim G A t s (subscriptTail value slice v (.str (toStr x) k)) st (vrel Z):=by
 obtain ⟨a,kvs,h1,h2,h3⟩:=R.objs r _ hd
 obtain ⟨a',rfl,e2⟩:=hX
 cases h1.symm.trans e2
 have f:=DRel.find (x:=x) h3
 rw [ez] at f
 obtain ⟨y,f1,f2⟩:=f
 intro Q E q
 exact tail_any h2.mapOf.typeIs slot_dict_getitem.lookup (wpAny_getItem_of (strKind_is G.prog G.w (toStr x) k) h2.mapOf f1 (q _ t _ (Step.toks _ t s _) (R.toks _) f2)) (subscripted_plain hs _ _)
theorem item_seq {value slice:PySem.Expr}{i:Int}{ki:Tok} (hs:notSlice slice=true) (R:Rel G t st s) (hX:VRel t s.heap X v) (e:(match seqOf st X with
  | some (_,l)=>okV st ((idx i l.length).bind fun j=>l[j]?)
  | Option.none=>.stuck)=.ok Z st'):Sim G A t s (subscriptTail value slice v (.int i ki)) st' (vrel Z):=by
 obtain ⟨kk,l,j,hl,h1,h2,rfl⟩:=at_inv e
 obtain ⟨a,vs,rfl,ia,ra,sz⟩:=seqOf_real R hX hl
 cases kk with
 | true=>exact item_list hs R ia ra sz h1 h2
 | false=>exact item_tup hs R ia ra sz h1 h2
theorem item_keyed {value slice:PySem.Expr} (hs:notSlice slice=true) (R:Rel G t st s) (hX:VRel t s.heap X v) (hY:VRel t s.heap Y w) (e:(match X with
  | .ref r=>match st.heap r with
   | some (.dict l)=>if Y.isKey then okV st (dfind Y l) else .stuck
   | _=>.stuck
  | _=>.stuck)=.ok Z st'):Sim G A t s (subscriptTail value slice v w) st' (vrel Z):=by
 obtain ⟨x,r,l,rfl,rfl,h1,h2,rfl⟩:=key_inv e
 obtain ⟨k,rfl⟩:=hY
 exact item_key hs R hX h1 h2
theorem getItem_sound {value slice:PySem.Expr} (hs:notSlice slice=true) (R:Rel G t st s) (hA:AOk d A) (hX:VRel t s.heap X v) (hY:VRel t s.heap Y w) (e:getItem X Y st=.ok Z st'):Sim G A t s (subscriptTail value slice v w) st' (vrel Z):=by
 cases Y with
 | int i =>
  obtain ⟨k,rfl⟩:=hY
  cases X with
  | str x=>obtain ⟨k1,rfl⟩:=hX; exact item_str hs R e
  | _=>exact item_seq hs R hX e
 | _=>exact item_keyed hs R hX hY e
theorem sim_sub {a b:E}{x y:PySem.Expr}{pos:Pos} (hs:notSlice y=true) (ha:SimE G C d sc Γ a x) (hb:SimE G C d sc Γ b y):SimE G C d sc Γ (.sub a b) (.Subscript x y pos):=by
 intro t st s env loc X st' A hA hsc F R e Q E k
 rw [ev_sub] at e
 obtain ⟨v1,s1,e1,e⟩:=Res.bind_ok e
 obtain ⟨v2,s2,e2,e⟩:=Res.bind_ok e
 refine Subscript_ (ha t st s env loc _ _ A hA hsc F R e1 _ _ fun u t1 σ1 S1 R1 r1=>?_)
 refine hb t1 s1 σ1 env loc _ _ A hA hsc (F.step R S1) R1 e2 _ _ fun w t2 σ2 S2 R2 r2=>?_
 exact getItem_sound hs R2 hA (VRel.step S2 (fun _ z=>z.elim) _ r1) r2 e _ _ fun z t3 σ3 S3 R3 r3=>k z t3 σ3 ((S1.trans S2).trans S3) R3 r3
noncomputable def notSuper (x:PySem.Expr):Bool:=!Nat.beq x.ctorIdx 16
theorem base_plain {x:PySem.Expr} (h:notSuper x=true) (n:PySem.Str) (env:Env):attributeBase x n env (eval x env)=eval x env:=by
 cases x with
 | Call f l k p=>exact no_ft h
 | _=>rfl
set_option genCtorIdx false in
structure ClsOk (G:Gd) (Ca:Addr):Prop where
 ga:findIn G.K (.ref Ca) "__getattribute__"=some (some (.builtin "object.__getattribute__"))
 gt:findIn G.K (.ref Ca) "__getattr__"=some none
 sa:findIn G.K (.ref Ca) "__setattr__"=some (some (.builtin "object.__setattr__"))
 at_:∀ i,i < 13→findIn G.K (.ref Ca) (G.an i)=some none
 cd:∃ cd,clsIn G.K Ca=some cd∧cd.hasDict=true
 po:plainOver G.K Ca=true
theorem ns_lookIn {h:Heap}{a:Addr}{m:PySem.Str→Option Value} (hn:h.Ns a m) (x:PySem.Str):∃ o,h.get? a=some o∧lookIn x o=some (m x):=by
 obtain ⟨o,es,ep,ho,hd,hk,hf⟩:=hn
 refine ⟨o,ho,?_⟩
 unfold lookIn
 rw [hd]
 dsimp only
 have:=hf x
 unfold nsFind findBy at this
 rw [← Array.find?_toList] at this
 cases q:es.toList.find? (fun e=>e.key.isStr x) with
 | some e=>rw [q] at this; simp only [Option.map_some] at this; rw [← this]
 | none =>
  rw [q] at this
  simp only [Option.map_none] at this
  have nr:es.toList.any (·.refKey)=false:=by
   refine List.any_eq_false.mpr fun e he=>?_
   obtain ⟨n,tk,hk'⟩:=hk e (Array.mem_toList_iff.mp he)
   simp [DictEntry.refKey,hk']
  dsimp only
  rw [nr,if_neg (by decide),← this]
theorem inst_at {G:Gd}{t:Tie}{st:MS}{s:Shared} (R:Rel G t st s) {l:Lbl}{c:Nat}{as:List (Nat×V)} (h:st.heap l=some (.inst c as)) :
  ∃ a dd Ca m od,t.ρ l=some a∧t.δ l=some dd∧G.ca c=some Ca∧InstAt s.heap a (instObj Ca dd) Ca (some od)∧s.heap.get? dd=some od∧(∀ x,lookIn x od=some (m x))∧NsZ s.heap dd m as.length∧ARel G t s.heap as m:=by
 obtain ⟨a,dd,Ca,m,h1,h2,h3,h4,h5,h6⟩:=R.objs l _ h
 have h7:∃ od,s.heap.get? dd=some od:=let ⟨o,_,_,ho,_⟩:=h5; ⟨o,ho⟩
 obtain ⟨od,ho⟩:=h7
 refine ⟨a,dd,Ca,m,od,h1,h2,h3,⟨h4,rfl,rfl,ho⟩,ho,fun x=>?_,h5,h6⟩
 obtain ⟨o',e1,e2⟩:=ns_lookIn h5.ns x
 rw [ho] at e1; cases e1; exact e2
theorem inst_inv {β:Type}{h:Option MObj}{f:Nat→List (Nat×V)→Res β}{y:β}{s:MS} (e:(match h with | some (.inst c as)=>f c as | _=>.stuck)=.ok y s):∃ c as,h=some (.inst c as)∧f c as=.ok y s:=by
 cases h with
 | none=>exact no_stuck e
 | some o=>cases o with
  | inst c as=>exact ⟨c,as,rfl,e⟩
  | _=>exact no_stuck e
theorem getAttr_inv {X Z:V}{i:Nat}{st st':MS} (e:getAttr X i st=.ok Z st'):∃ r c as,X=.ref r∧st.heap r=some (.inst c as)∧afind i as=some Z∧st'=st:=by
 obtain ⟨r,rfl,e⟩:=ref_inv e
 obtain ⟨c,as,h,e⟩:=inst_inv e
 obtain ⟨h1,h2⟩:=okV_inv e
 exact ⟨r,c,as,rfl,h,h1,h2⟩
theorem handed_of {y:Value} (h:∀ n,y≠.builtin n):handedIn y=true:=by
 cases y with
 | builtin n=>exact absurd rfl (h n)
 | _=>rfl
theorem own_at {cd:ClassData}{od:Obj}{x:PySem.Str}{o:Option Value} (c2:cd.hasDict=true) (h:lookIn x od=some o):W.ownOf cd (some od) x=some o:=by
 delta W.ownOf; rw [c2,if_pos rfl]; exact h
theorem findObj_own {K:Frag}{Ca:Addr}{cd:ClassData}{od:Obj}{x:PySem.Str}{y:Value} (c1:clsIn K Ca=some cd) (c2:cd.hasDict=true) (hf:findIn K (.ref Ca) x=some none) (h:lookIn x od=some (some y)):findObj K Ca (some od) x=some (.value y):=by
 delta findObj
 rw [c1,hf]
 show (W.ownOf cd (some od) x).bind _=_
 rw [own_at c2 h]; rfl
theorem getAttr_sound (O:G.Ok N) (hcl:∀ c Ca,G.ca c=some Ca→ClsOk G Ca) {i:Nat}{b:Bool} (hi:i < 13) (R:Rel G t st s) (hX:VRel t s.heap X v) (e:getAttr X i st=.ok Z st'):Sim G A t s (PySem.getAttr v (G.an i) b) st' (vrel Z):=by
 obtain ⟨r,c,as,rfl,has,q,rfl⟩:=getAttr_inv e
 obtain ⟨a,dd,Ca,m,od,h1,h2,h3,I,h5,h6,h7,h8⟩:=inst_at R has
 obtain ⟨a',rfl,e2⟩:=hX
 cases h1.symm.trans e2
 obtain ⟨y,y1,y2⟩:=h8.1 i Z q
 have K:=hcl c Ca h3
 obtain ⟨cd,c1,c2⟩:=K.cd
 intro Q E k
 exact get_value (O.K.keeps R.base) I K.ga (findObj_own c1 c2 (K.at_ i hi) ((h6 _).trans (congrArg some y1))) (handed_of y2.notB) (k _ t _ (Step.toks _ t s _) (R.toks _) y2)
theorem sim_attr (O:G.Ok N) (hcl:∀ c Ca,G.ca c=some Ca→ClsOk G Ca) {i:Nat}{a:E}{x:PySem.Expr}{pos:Pos} (hi:i < 13) (hx:notSuper x=true) (ha:SimE G C d sc Γ a x):SimE G C d sc Γ (.attr a i) (.Attribute x (G.an i) pos):=by
 intro t st s env loc X st' A hA hsc F R e Q E k
 rw [ev_attr] at e
 obtain ⟨v1,s1,e1,e⟩:=Res.bind_ok e
 refine Attribute_any_ (ha t st s env loc _ _ A hA hsc F R e1 _ _ fun u t1 σ1 S1 R1 r1=>?_) ?_
 ·exact getAttr_sound O hcl hi R1 r1 e _ _ fun z t3 σ3 S3 R3 r3=>k z t3 σ3 (S1.trans S3) R3 r3
 ·show (attributeBase x (G.an i) env (eval x env) >>= _)=_
  rw [base_plain hx]
theorem af_hit {i:Nat}{w:V}{r:List (Nat×V)}:afind i ((i,w) :: r)=some w:=if_pos rfl
theorem af_miss {i k:Nat}{w:V}{r:List (Nat×V)} (h:¬ k=i):afind i ((k,w) :: r)=afind i r:=if_neg h
theorem ap_hit {i:Nat}{v w:V}{r:List (Nat×V)}:aput i v ((i,w) :: r)=(i,v) :: r:=if_pos rfl
theorem ap_miss {i k:Nat}{v w:V}{r:List (Nat×V)} (h:¬ k=i):aput i v ((k,w) :: r)=(k,w) :: aput i v r:=if_neg h
theorem afind_aput (i j:Nat) (v:V):∀ as:List (Nat×V),afind j (aput i v as)=if j=i then some v else afind j as
 | []=>by
  by_cases q:i=j
  ·subst q; rw [if_pos rfl]; exact af_hit
  ·rw [if_neg (fun z=>q z.symm)]; exact af_miss q
 | (k,w) :: r=>by
  by_cases q:k=i
  ·subst q
   rw [ap_hit]
   by_cases z:k=j
   ·subst z; rw [if_pos rfl]; exact af_hit
   ·rw [if_neg (fun y=>z y.symm),af_miss z,af_miss z]
  ·rw [ap_miss q]
   by_cases z:k=j
   ·subst z; rw [if_neg q,af_hit,af_hit]
   ·rw [af_miss z,af_miss z,afind_aput i j v r]
theorem aput_length (i:Nat) (v:V):∀ as:List (Nat×V),(aput i v as).length=if (afind i as).isSome=true then as.length else as.length + 1
 | []=>rfl
 | (k,w) :: r=>by
  by_cases q:k=i
  ·subst q; rw [ap_hit,af_hit]; rfl
  ·rw [ap_miss q,af_miss q,List.length_cons,aput_length i v r,List.length_cons]
   cases (afind i r).isSome <;> rfl
theorem aput_small {i:Nat}{v:V}{as:List (Nat×V)} (h:as.length < 1000):(aput i v as).length≤1000:=by
 rw [aput_length]
 cases (afind i as).isSome with
 | true=>exact Nat.le_of_lt h
 | false=>exact h
theorem arel_len (O:G.Ok N) {h:Heap}{i:Nat}{as:List (Nat×V)}{m:PySem.Str→Option Value} (h8:ARel G t h as m):(if (m (G.an i)).isSome=true then as.length else as.length + 1)=(aput i Y as).length:=by
 rw [aput_length]
 cases q:afind i as with
 | some z=>obtain ⟨y,y1,_⟩:=h8.1 i z q; rw [y1]; rfl
 | none =>
  cases q2:m (G.an i) with
  | none=>rfl
  | some y=>obtain ⟨j,z,z1,z2⟩:=h8.2 _ _ q2; rw [← O.an _ _ z1,q] at z2; exact no_none z2
theorem arel_put (O:G.Ok N) {t':Tie}{h h':Heap}{i:Nat}{as:List (Nat×V)}{m:PySem.Str→Option Value} (h8:ARel G t h as m) (hY:VRel t' h' Y w) (hs:∀ z y,VRel t h z y→VRel t' h' z y):ARel G t' h' (aput i Y as) (fun x=>if x=G.an i then some w else m x):=by
 refine ⟨fun j z hz=>?_,fun x y hx=>?_⟩
 ·rw [afind_aput] at hz
  by_cases q:j=i
  ·subst q
   rw [if_pos rfl] at hz; cases hz
   exact ⟨w,if_pos rfl,hY⟩
  ·rw [if_neg q] at hz
   obtain ⟨y,y1,y2⟩:=h8.1 j z hz
   exact ⟨y,(if_neg fun z=>q (O.an _ _ z)).trans y1,hs _ _ y2⟩
 ·by_cases q:x=G.an i
  ·subst q; exact ⟨i,Y,rfl,by rw [afind_aput,if_pos rfl]⟩
  ·obtain ⟨j,z,rfl,z2⟩:=h8.2 x y ((if_neg q).symm.trans hx)
   exact ⟨j,z,rfl,by rw [afind_aput,if_neg fun (z:j=i)=>q (by rw [z])]; exact z2⟩
theorem setAttr_inv {X:V}{i:Nat}{u:Unit}{st st':MS} (e:setAttr X i Y st=.ok u st'):∃ r c as,X=.ref r∧st.heap r=some (.inst c as)∧as.length < 1000∧st'=st.put r (.inst c (aput i Y as)):=by
 obtain ⟨r,rfl,e⟩:=ref_inv e
 obtain ⟨c,as,h,e⟩:=inst_inv e
 by_cases q:as.length < 1000
 ·rw [if_pos q] at e; cases e; exact ⟨r,c,as,rfl,h,q,rfl⟩
 ·rw [if_neg q] at e; exact no_stuck e
theorem takes_no {K:Frag}{Ca:Addr}{x:PySem.Str} (h:findIn K (.ref Ca) x=some none):takerIn K Ca x=some none:=by
 delta takerIn; rw [h]; rfl
theorem nsz_some {h:Heap}{a:Addr}{m:PySem.Str→Option Value}{n:Nat} (hn:NsZ h a m n):(h.get? a).isSome=true:=by
 obtain ⟨o,_,_,ho,_⟩:=hn; rw [ho]; rfl
theorem line_of {n:Nat} (h:n≤1000):n≤sizeLine + 1:=Nat.le_trans h (by rw [sizeLine_eq]; decide)
theorem nsz_line {h:Heap}{a:Addr}{m:PySem.Str→Option Value}{n:Nat}{M:Model}{A:Around}{Q:Unit→Shared→Prop}{E:Value→Shared→Prop}{s:Shared} (hn:NsZ s.heap a m n) (hz:n≤1000) (q:Q () s):wpAny M A (lookBehind a) Q E s:=by
 obtain ⟨on,esn,epn,hon,hdn,_,_,hzn⟩:=hn
 exact wpAny_lookBehind hon (by rw [hdn]; exact pastItsLine_dict (line_of (Nat.le_trans hzn hz))) q
theorem setAttr_sound (O:G.Ok N) (hcl:∀ c Ca,G.ca c=some Ca→ClsOk G Ca) {i:Nat}{u:Unit} (hi:i < 13) (R:Rel G t st s) (hX:VRel t s.heap X v) (hY:VRel t s.heap Y w) (e:setAttr X i Y st=.ok u st'):Sim G A t s (PySem.setAttr v (G.an i) w) st' (fun _ _ _=>True):=by
 obtain ⟨r,c,as,rfl,has,hlen,rfl⟩:=setAttr_inv e
 obtain ⟨a,dd,Ca,m,od,h1,h2,h3,I,h5,h6,h7,h8⟩:=inst_at R has
 obtain ⟨a',rfl,e2⟩:=hX
 cases h1.symm.trans e2
 have K:=hcl c Ca h3
 obtain ⟨cd,c1,c2⟩:=K.cd
 have XK:=O.K.keeps R.base
 intro Q E k
 refine set_plain XK I K.sa ?_
 refine osa_open (s:={ s with toks:=s.toks + 1 }) XK (od:=some od) ⟨I.at_,I.cls,I.no,I.dict⟩ K.po (r:=none) (takes_no (K.at_ i hi)) fun b=>?_
 refine wpAny_bind (wpAny_pure (wpAny_bind (wpAny_bind (wpAny_loadPart (s:={ s with toks:=s.toks + 1 }) I.at_ (wpAny_bind (Looks.here (s:={ s with toks:=s.toks + 1 }) (looks_clsIn XK c1) ?_))))))
 rw [c2]
 refine wpAny_pure (a:=some dd) (wpAny_bind (wpAny_pure (wpAny_bind (wpAny_nsSetZ (s:={ s with toks:=s.toks + 1 }) h7 fun h' hn hs=>?_))))
 rw [arel_len O (Y:=Y) h8] at hn
 have hl:=nsz_some hn
 have S:=Step.upd (t:=t) (s:=s) (tk:=s.toks + 1 + 1) ⟨r,.inr h2⟩ hl hs
 refine wpAny_bind (nsz_line (h:=h') hn (aput_small hlen) ?_)
 exact wpAny_pure (k () t.tick _ S (R.upd (l:=r) (.inr h2) hl hs (by rw [has]; exact fun q=>no_none q.symm) ⟨a,dd,Ca,_,h1,h2,h3,(hs.2 a fun q=>R.two r r a h1 (q ▸ h2)).trans I.at_,hn,arel_put O h8 (VRel.step S (fun _ z=>z.elim) _ hY) (fun z y=>VRel.step S (fun _ z=>z.elim) _)⟩) trivial)
end
end Mine
end
section
namespace Mine
open PySem PySem.W PyProof.Rows
section
variable {G:Gd}{N:Names}{C:Calls}{d:Dp}{sc:Sc}{Γ:Gam}{A:Around}{t:Tie}{st st':MS}{s:Shared}{env:Env}{loc:Loc}
noncomputable def plainArgs (m:List PySem.Expr):Bool:=m.all fun x=>!isStarred x
theorem star_false {x:PySem.Expr} (hx:isStarred x=false) (m:List PySem.Expr) (env:Env):starEach (x :: m) env=(false,eval x env) :: starEach m env:=by cases x <;> first | rfl | exact no_tf hx
theorem star_plain (pos:Pos) (env:Env):∀ {m:List PySem.Expr},plainArgs m=true→(backTo pos (starEach m env)).any (·.1)=false
 | [],_=>rfl
 | x :: m,h=>by
  simp only [plainArgs,List.all_cons,Bool.and_eq_true,Bool.not_eq_true'] at h
  rw [star_false h.1]
  exact star_plain pos env (m:=m) h.2
theorem star_all (pos:Pos) (env:Env) {m:List PySem.Expr} (h:plainArgs m=true):(backTo pos (starEach m env)).all (fun x=>!x.1)=true:=by
 have:=star_plain pos env h
 rw [List.any_eq_false] at this
 rw [List.all_eq_true]
 intro x hx
 simpa using this x hx
theorem args_go {f:Value}{pos:Pos}{l:List E}{m:List PySem.Expr}{Vs:List V}{Q:Args→Shared→Prop}{E':Value→Shared→Prop} (hm:plainArgs m=true) (hlm:l.length=m.length) (hl:SimEs G C d sc Γ l m) (hA:AOk d A) (hsc:env.scope.names=sc)
  (F:FrOk G A t env Γ loc s) (R:Rel G t st s) (e:evL G.P C l loc st=.ok Vs st') (h:∀ vs t' s',Step noX t t' s s'→Rel G t' st' s'→VRels t' s'.heap Vs vs→Q ⟨vs,[]⟩ s') :
  wpAny G.M A (evalArgs f true (backTo pos (starEach m env)) []) Q E' s:=by
 cases m with
 | nil =>
  cases l with
  | nil=>cases e; exact evalArgs_nil3 (h [] t s (.refl _ _ _) R rfl)
  | cons a l=>cases hlm
 | cons x m =>
  simp only [plainArgs,List.all_cons,Bool.and_eq_true,Bool.not_eq_true'] at hm
  have q:=hl pos t st s env loc Vs st' A hA hsc F R e (fun vs s'=>Q ⟨vs,[]⟩ s') E' h
  rw [star_false hm.1] at q ⊢
  exact Calls.evalArgs_plain q
noncomputable def Keeps (G:Gd) (f:Value):Prop:=∀ h,G.K.In h→∃ k,(k=Keeper.frame∨k=Keeper.machine∨k=Keeper.boundFrame)∧Looks G.M h (keeperOf f) k
theorem keeps_b (id:String):Keeps G (.builtin id):=fun _ _=>⟨.machine,.inr (.inl rfl),Looks.of_pure rfl⟩
theorem keeps_t (id:String):Keeps G (.type id):=fun _ _=>⟨.machine,.inr (.inl rfl),Looks.of_pure rfl⟩
theorem keeps_r {a:Addr} (h:keepIn G.K (.ref a)=true):Keeps G (.ref a):=fun _ X=>keeps_K h _ X
theorem with_go {f:Value}{first:List Value}{pos:Pos}{l:List E}{m:List PySem.Expr}{Vs:List V}{Q:Value→Shared→Prop}{E':Value→Shared→Prop} (O:G.Ok N) (hk:Keeps G f) (hm:plainArgs m=true) (hlm:l.length=m.length) (hl:SimEs G C d sc Γ l m) (hA:AOk d A) (hsc:env.scope.names=sc)
  (F:FrOk G A t env Γ loc s) (R:Rel G t st s) (e:evL G.P C l loc st=.ok Vs st') (h:∀ vs t' s',Step noX t t' s s'→Rel G t' st' s'→VRels t' s'.heap Vs vs→wpAny G.M A (call f (first ++ vs)) Q E' s') :
  wpAny G.M A (callWith pos f first (backTo pos (starEach m env)) []) Q E' s :=
 callWith_of (by rw [star_plain pos env hm]; rfl) hk (args_go hm hlm hl hA hsc F R e fun vs t' s' S R' r=>⟨O.K.keeps R'.base,h vs t' s' S R' r⟩)
set_option genCtorIdx false in
structure FnOk (G:Gd) (N:Names) (f:Nat) (a:Addr):Prop where
 keep:keepIn G.K (.ref a)=true
 name:N.fn f=Str.empty∨G.mg (N.fn f)=some (.ref a)
theorem call_wp {f:Nat}{a:Addr}{Vs:List V}{vs:List Value}{X:V} (O:CallAt G C d f) (hA:AC d A) (hf:G.fa f=some a) (K:Stk A t s.heap) (R:Rel G t st s) (r:VRels t s.heap Vs vs) (e:C f Vs st=.ok X st'):Sim G A t s (call (.ref a) vs) st' (vrel X):=by
 obtain ⟨a',h1,h2⟩:=O Vs st X st' e A hA
 rw [hf] at h1; cases h1
 exact fun Q E' k=>wpAny_call (h2 t s vs K R r _ fun v t' s' S R' q=>k v t' s' S R' q)
theorem sim_call (O:G.Ok N) {f:Nat} (CO:CallAt G C d f) (hfn:∀ f a,G.fa f=some a→FnOk G N f a) {l:List E}{m:List PySem.Expr}{np pos:Pos} (hne:N.fn f≠Str.empty) (hg:glob sc (N.fn f)=true) (hm:plainArgs m=true) (hlm:l.length=m.length) (hl:SimEs G C d sc Γ l m) :
  SimE G C d sc Γ (.call f l) (.Call (.Name (N.fn f) np) m [] pos):=by
 intro t st s env loc X st' A hA hsc F R e Q E k
 rw [ev_call] at e
 obtain ⟨Vs,s1,e1,e⟩:=Res.bind_ok e
 obtain ⟨a,h1,_⟩:=CO Vs s1 X st' e A hA.ac
 have fo:=hfn f a h1
 refine wpAny_Call_ofName (glob_name O F R hsc hg (fo.name.resolve_left hne) ?_)
 refine with_go O (keeps_r fo.keep) hm hlm hl hA hsc F R e1 fun vs t1 σ1 S1 R1 r1=>?_
 exact call_wp CO hA.ac h1 (F.step R S1).sk R1 r1 e _ _ fun v t2 σ2 S2 R2 r2=>k v t2 σ2 (S1.trans S2) R2 r2
set_option genCtorIdx false in
structure MethOk (G:Gd) (Ca:Addr) (x:PySem.Str) (a:Addr):Prop where
 find:findIn G.K (.ref Ca) x=some (some (.ref a))
 typ:typeIn G.K (.ref a)=some (.type "function")
 keep:keepIn G.K (.ref a)=true
 notA:∀ i,x≠G.an i
theorem meth_form {m:List PySem.Expr}{pos:Pos}{env:Env} (hm:plainArgs m=true) (h30:m.length < 30):methodCallForm (m.length + ([]:List Keyword).length) (backTo pos (starEach m env)) (backToKw pos (keywordEach [] env))=true:=by
 unfold methodCallForm
 rw [star_all pos env hm]
 show (true && true && decide (m.length + 0 + 0 < 30))=true
 simpa using h30
theorem meth_at (O:G.Ok N) (hcl:∀ c Ca,G.ca c=some Ca→ClsOk G Ca)
  (hme:∀ c k f Ca,G.P.meths c k=some f→G.ca c=some Ca→∃ a,G.fa f=some a∧MethOk G Ca (N.meth k) a)
  {k:Nat}{a:E}{x:PySem.Expr}{l:List E}{m:List PySem.Expr}{ap pos:Pos} (hx:notSuper x=true) (hln:(ap.endLine == pos.line)=true) (h30:m.length < 30) (hm:plainArgs m=true) (hlm:l.length=m.length)
  (ha:SimE G C d sc Γ a x) (hl:SimEs G C d sc Γ l m) (hA:AOk d A) (hsc:env.scope.names=sc) (F:FrOk G A t env Γ loc s) (R:Rel G t st s) {U:V}{s1 s2:MS}{f:Nat}{Vs:List V} (e1:ev G.P C a loc st=.ok U s1) (hmo:methOf G.P U k s1=some f) (e2:evL G.P C l loc s1=.ok Vs s2)
  {Q E:Value→Shared→Prop} (q:∀ fa v vs t2 σ2,G.fa f=some fa→Step noX t t2 s σ2→Rel G t2 s2 σ2→VRels t2 σ2.heap (U :: Vs) (v :: vs)→wpAny G.M A (call (.ref fa) (v :: vs)) Q E σ2) :
  wpAny G.M A (eval (.Call (.Attribute x (N.meth k) ap) m [] pos) env) Q E s:=by
 rw [arm_eval_Call,base_plain hx]
 refine wpAny_bind (ha t st s env loc _ _ A hA hsc F R e1 _ _ fun v t1 σ1 S1 R1 r1=>wpAny_bind (wpAny_standAt ?_))
 cases U with
 | ref r =>
  simp only [methOf] at hmo
  split at hmo
  ·rename_i c as hr2
   obtain ⟨a,dd,Ca,mm,od,h1,h2,h3,I,h5,h6,h7,h8⟩:=inst_at R1 hr2
   obtain ⟨a',rfl,e4⟩:=id r1
   rw [h1] at e4; cases e4
   obtain ⟨fa,f1,mo⟩:=hme c k f Ca hmo h3
   have KC:=hcl c Ca h3
   have hpos:methodCallPos true x env ap pos=pure pos:=by unfold methodCallPos; rw [hln]; rfl
   unfold methodCall
   rw [meth_form hm h30]
   refine wpAny_bind (wpAny_holding ?_)
   show wpAny _ _ (getMethod (.ref a) (N.meth k) _) _ _ _
   refine method_fn (O.K.keeps R1.base) I KC.ga KC.gt mo.find mo.typ ?_ ?_
   ·show (lookIn (N.meth k) od).map (·.isSome)=some false
    rw [h6]
    cases qq:mm (N.meth k) with
    | none=>rfl
    | some y=>obtain ⟨i,_,z,_⟩:=h8.2 _ _ qq; exact absurd z (mo.notA i)
   ·refine wpAny_bind (wpAny_of_eq hpos ?_)
    refine with_go O (keeps_r mo.keep) hm hlm hl hA hsc (F.step R S1) R1 e2 fun vs t2 σ2 S2 R2 r2=>?_
    exact q fa (.ref a) vs t2 σ2 f1 (S1.trans S2) R2 ⟨_,_,rfl,VRel.step S2 (fun _ z=>z.elim) (.ref r) r1,r2⟩
  ·exact no_none hmo
 | _=>exact no_none hmo
theorem sim_meth (O:G.Ok N) (CO:CallsOk G C d) (hcl:∀ c Ca,G.ca c=some Ca→ClsOk G Ca)
  (hme:∀ c k f Ca,G.P.meths c k=some f→G.ca c=some Ca→∃ a,G.fa f=some a∧MethOk G Ca (N.meth k) a)
  {k:Nat}{a:E}{x:PySem.Expr}{l:List E}{m:List PySem.Expr}{ap pos:Pos} (hx:notSuper x=true) (hln:(ap.endLine == pos.line)=true) (h30:m.length < 30) (hm:plainArgs m=true) (hlm:l.length=m.length)
  (ha:SimE G C d sc Γ a x) (hl:SimEs G C d sc Γ l m):SimE G C d sc Γ (.meth a k l) (.Call (.Attribute x (N.meth k) ap) m [] pos):=by
 intro t st s env loc X st' A hA hsc F R e Q E q
 rw [ev_meth] at e
 obtain ⟨V,s1,e1,e⟩:=Res.bind_ok e
 cases hmo:methOf G.P V k s1 with
 | none=>rw [hmo] at e; exact no_stuck e
 | some f =>
  rw [hmo] at e
  obtain ⟨Vs,s2,e2,e⟩:=Res.bind_ok e
  exact meth_at O hcl hme hx hln h30 hm hlm ha hl hA hsc F R e1 hmo e2 fun fa v vs t2 σ2 f1 S2 R2 r2=>call_wp (Vs:=V :: Vs) (CO f) hA.ac f1 (F.step R S2).sk R2 r2 e _ _ fun v t3 σ3 S3 R3 r3=>q v t3 σ3 (S2.trans S3) R3 r3
set_option genCtorIdx false in
structure NewOk (G:Gd) (N:Names) (c:Nat) (Ca fi:Addr):Prop where
 keep:keepIn G.K (.ref Ca)=true
 name:G.mg (N.cls c)=some (.ref Ca)
 makes:makesIn G.K Ca=true
 init:findIn G.K (.ref Ca) "__init__"=some (some (.ref fi))
 fn:typeIn G.K (.ref fi)=some (.type "function")
theorem size_none1 (h:Heap):h.get? (h.objs.size + 1)=none:=by
 cases e:h.get? (h.objs.size + 1) with
 | none=>rfl
 | some o=>exact absurd (Heap.lt_size e) (Nat.not_lt.mpr (Nat.le_succ _))
theorem Rel.size_sys1 (O:G.Ok N) {t:Tie}{st:MS}{s:Shared} (R:Rel G t st s):s.heap.objs.size + 1≠sysModules:=by
 obtain ⟨mc,⟨o,es,ep,ho,_⟩,_⟩:=O.lim
 have h1:=Heap.lt_size (R.base _ _ ho)
 intro q
 have h2:s.heap.objs.size=0:=Nat.succ.inj (n:=0) q
 rw [h2] at h1
 exact absurd h1 (Nat.not_lt_zero _)
theorem Stk.under {A:Around}{t:Tie}{h:Heap}{id:String}{a:Args} (K:Stk A t h):Stk (A.under (.builtin id a)) t h:=⟨by unfold Around.under; dsimp only; rw [K.fr]; rfl,K.ob⟩
theorem sim_new (O:G.Ok N) (CO:CallsOk G C d) (hne:∀ c k f,G.P.inits c=some (k,f)→∃ Ca fi,G.ca c=some Ca∧G.fa f=some fi∧NewOk G N c Ca fi)
  {c:Nat}{l:List E}{m:List PySem.Expr}{np pos:Pos} (hg:glob sc (N.cls c)=true) (hm:plainArgs m=true) (hlm:l.length=m.length) (hl:SimEs G C d sc Γ l m) :
  SimE G C d sc Γ (.new c l) (.Call (.Name (N.cls c) np) m [] pos):=by
 intro t st s env loc X st' A hA hsc F R e Q E q
 rw [ev_new] at e
 obtain ⟨Vs,s1,e1,e⟩:=Res.bind_ok e
 unfold makeInst at e
 split at e
 case h_2=>exact no_stuck e
 rename_i k f hi
 obtain ⟨Ca,fi,c1,c2,no⟩:=hne c k f hi
 obtain ⟨X1,s2,e2,e⟩:=Res.bind_ok e
 split at e
 case h_2=>exact no_stuck e
 cases e
 refine wpAny_Call_ofName (glob_name O F R hsc hg no.name ?_)
 refine with_go O (keeps_r no.keep) hm hlm hl hA hsc F R e1 fun vs t1 σ1 S1 R1 r1=>?_
 refine wpAny_call ?_
 have XK:=O.K.keeps R1.base
 have K1:=(F.step R S1).sk
 obtain ⟨hh,g,dr,tk,os⟩:=σ1
 refine make_core (makes_of XK no.makes) (looks_findIn XK no.init) (fun self=>bind_fn XK self no.fn) (.inl rfl) ?_
 have keep:∀ b o,hh.get? b=some o→((hh.push emptyDict).push (instObj Ca hh.objs.size)).get? b=some o:=fun b o e=>Heap.get?_push_of_some _ (Heap.get?_push_of_some _ e)
 have fr1:hh.get? (hh.objs.size + 1)=none:=size_none1 _
 have fr0:hh.get? hh.objs.size=none:=size_none _
 have hx:((hh.push emptyDict).push (instObj Ca hh.objs.size)).get? (hh.objs.size + 1)=some (instObj Ca hh.objs.size):=by heap_get
 have hd0:((hh.push emptyDict).push (instObj Ca hh.objs.size)).get? hh.objs.size=some emptyDict:=by heap_get
 have hns:NsZ ((hh.push emptyDict).push (instObj Ca hh.objs.size)) hh.objs.size (fun _=>none) 0:=⟨_,#[],0,hd0,rfl,fun e he=>by simp at he,fun _=>rfl,Nat.le_refl _⟩
 have S2:=Step.bind (k:=k) (d:=some hh.objs.size) (s':=⟨(hh.push emptyDict).push (instObj Ca hh.objs.size),g,dr,tk,os⟩) R1 keep rfl rfl fr1 (fun x z=>by cases z; exact fr0)
 have R2:=Rel.bind (k:=k) (d:=some hh.objs.size) (s':=⟨(hh.push emptyDict).push (instObj Ca hh.objs.size),g,dr,tk,os⟩) (o:=.inst c []) R1 keep rfl rfl fr1
  (fun x z=>by cases z; exact ⟨fr0,(fun z=>absurd z (Nat.ne_of_lt (Nat.lt_succ_self _))),by show (Heap.get? _ _).isSome=true; rw [hd0]; rfl⟩) (by show (Heap.get? _ _).isSome=true; rw [hx]; rfl) (R1.size_sys1 O) ⟨_,_,Ca,_,by simp [Tie.bind],by simp [Tie.bind],c1,hx,hns,⟨fun i v z=>(nomatch z),fun x y z=>(nomatch z)⟩⟩
 have ac:AC d (A.under (.builtin "type.__call__" ⟨.ref Ca :: vs,[]⟩)):=⟨hA.hd,by have:=hA.dep; rw [depth_under_make]; lia,by have:=hA.un; rw [units_under_make]; lia⟩
 obtain ⟨fi',z1,z2⟩:=CO f _ _ _ _ e2 _ ac
 rw [c2] at z1; cases z1
 refine z2 _ _ (.ref (hh.objs.size + 1) :: vs) (K1.step0 R1 S2).under R2 ⟨_,_,rfl,⟨_,rfl,by simp [Tie.bind]⟩,VRels.step S2 (fun _ z=>z.elim) _ r1⟩ _ fun v t3 σ3 S3 R3 r3=>?_
 have:v=.none:=r3
 subst this
 exact ⟨rfl,q _ t3 σ3 ((S1.trans S2).trans S3) R3 ⟨_,rfl,S3.le.ρ _ _ (by simp [Tie.bind])⟩⟩
end
end Mine
end
section
namespace Mine
open PySem PySem.W PyProof.Rows
section
variable {G:Gd}{N:Names}{C:Calls}{d:Dp}{sc:Sc}{Γ:Gam}{A:Around}{t:Tie}{st st':MS}{s:Shared}{env:Env}{loc:Loc}{X Y Z:V}{v w:Value}
theorem VRel.madeL (R:Rel G t st s) {s':Shared}{a:Addr}{l:List V}{vs:Array Value} (S:Step noX t t s s') (ha:s.heap.get? a=none) (ho:PL s'.heap a vs) (r:VRels t s.heap l vs.toList) (sz:l.length≤sizeMax):VRel t s'.heap (.lst l) (.ref a) :=
 ⟨_,vs,rfl,ho,R.fresh ha,sz,VRels.step S (fun _ q=>q.elim) l r⟩
theorem VRel.madeT (R:Rel G t st s) {s':Shared}{a:Addr}{l:List V}{vs:Array Value} (S:Step noX t t s s') (ha:s.heap.get? a=none) (ho:PT s'.heap a vs) (r:VRels t s.heap l vs.toList) (sz:l.length≤sizeMax):VRel t s'.heap (.tup l) (.ref a) :=
 ⟨_,vs,rfl,ho,R.fresh ha,sz,VRels.step S (fun _ q=>q.elim) l r⟩
theorem size_of {h:Heap}{l:List V}{vs:Array Value} (r:VRels t h l vs.toList):vs.size=l.length:=by rw [← r.length]; simp
theorem none_later {h h':Heap} (k:∀ b o,h.get? b=some o→h'.get? b=some o) {a:Addr} (e:h'.get? a=none):h.get? a=none:=by
 cases q:h.get? a with
 | none=>rfl
 | some o=>rw [k a o q] at e; cases e
theorem fit63 {n:Nat} (h:n≤sizeMax):(n:Int) < 2 ^ 63:=by unfold sizeMax at h; lia
theorem list_copy (R:Rel G t st s) {k:Bool}{l:List V}{T:PySem.Value→Prop} (hX:VRel t s.heap X v) (e:seqOf st X=some (k,l)) {Q:Value→Shared→Prop}{E':Value→Shared→Prop}
  (h:∀ h' (vs:Array Value),(∀ b o,s.heap.get? b=some o→h'.get? b=some o)→PL h' s.heap.objs.size vs→VRels t s.heap l vs.toList→l.length≤sizeMax→Q (.ref s.heap.objs.size) { s with heap:=h' }) :
  wpAny G.M A (call (.type "list") [v]) Q E' s:=by
 obtain ⟨a,vs,rfl,io,r,sz⟩:=seqOf_real R hX e
 have hz:vs.size≤sizeLine:=by rw [size_of r]; exact sz
 cases k with
 | true =>
  obtain ⟨n,ho⟩:=io
  exact call_list_seq (hsz:=hz) a (.inl rfl) ho rfl rfl fun h' c' hk hD=>h h' vs hk ⟨c',hD⟩ r sz
 | false =>
  obtain ⟨n,ho⟩:=io
  exact call_list_seq (hsz:=hz) a (.inr rfl) ho rfl rfl fun h' c' hk hD=>h h' vs hk ⟨c',hD⟩ r sz
noncomputable def primOk:Prim→Bool
 | .sorted=>false
 | _=>true
noncomputable def primVal:Prim→Value
 | .len=>.builtin "len" | .max2=>.builtin "max" | .int1=>.type "int" | .sorted=>.builtin "sorted" | .tuple1=>.type "tuple" | .list1=>.type "list" | .all1=>.builtin "all"
theorem sim_num (R:Rel G t st s) {n:Int}{id:String} (h:∀ (Q:Value→Shared→Prop) (E:Value→Shared→Prop),Q (.int n (s.toks + 1)) { s with toks:=s.toks + 1 + 1 }→wpAny G.M A (call (.builtin id) [v]) Q E s) :
  Sim G A t s (call (.builtin id) [v]) st (vrel (.int n)):=fun Q E k=>h Q E (k _ t _ (Step.toks _ t s _) (R.toks _) ⟨_,rfl⟩)
theorem len_sq (R:Rel G t st s) (r:VRel t s.heap X v) (e:(match seqOf st X with
  | some p=>Res.ok (V.int p.2.length) st
  | Option.none=>.stuck)=.ok Z st'):Sim G A t s (call (.builtin "len") [v]) st' (vrel Z):=by
 obtain ⟨⟨k,l⟩,hr,e⟩:=oS_inv e
 obtain ⟨rfl,rfl⟩:=ok_inv e
 obtain ⟨a,vs,rfl,io,rr,sz⟩:=seqOf_real R r hr
 have hf:=fit63 sz
 rw [← size_of rr] at hf
 show Sim G A t s (call (.builtin "len") [.ref a]) st' (vrel (.int l.length))
 rw [← size_of rr]
 cases k with
 | true=>exact sim_num R fun Q E q=>Calls.call_len_list (PL.isList (show PL s.heap a vs from io)) hf q
 | false=>exact sim_num R fun Q E q=>PyProof.Rows.len_tuple (PT.isTup (show PT s.heap a vs from io)) hf q
theorem len_str {x:List Nat} (R:Rel G t st s) (r:VRel t s.heap (.str x) v) (e:lenV (.str x) st=.ok Z st'):Sim G A t s (call (.builtin "len") [v]) st' (vrel Z):=by
 obtain ⟨hz,e⟩:=if_inv e
 obtain ⟨rfl,rfl⟩:=ok_inv e
 obtain ⟨k,rfl⟩:=r
 exact sim_num R fun Q E q=>PySem.P.len_str (Int.not_le.2 (fit63 hz)) q
theorem prim_len (R:Rel G t st s) (r:VRel t s.heap X v) (e:lenV X st=.ok Z st'):Sim G A t s (call (.builtin "len") [v]) st' (vrel Z):=by
 cases X with
 | str x=>exact len_str R r e
 | _=>exact len_sq R r e
theorem prim_tuple (R:Rel G t st s) (r:VRel t s.heap X v) (e:prim1 .tuple1 X st=.ok Z st'):Sim G A t s (call (.type "tuple") [v]) st' (vrel Z):=by
 obtain ⟨⟨k,l⟩,hr,e⟩:=oS_inv e
 obtain ⟨rfl,rfl⟩:=ok_inv e
 obtain ⟨a,vs,rfl,io,rr,sz⟩:=seqOf_real R r hr
 cases k with
 | true =>
  intro Q E k
  refine call_tuple_list (PL.isList (show PL s.heap a vs from io)) (fun h' hk=>?_) (by rw [size_of rr]; exact sz)
  have hk':∀ b o,s.heap.get? b=some o→(h'.push { cls:=.type "tuple",data:=.seq vs }).get? b=some o:=fun b o e=>Heap.get?_push_of_some _ (hk b o e)
  have S:Step noX t t s { s with heap:=h'.push { cls:=.type "tuple",data:=.seq vs } }:=Step.grow R hk' rfl rfl
  exact k _ t _ S (R.grow hk' rfl rfl) (VRel.madeT R S (none_later hk (size_none h')) ⟨_,Heap.get?_push_size _ rfl⟩ rr sz)
 | false =>
  rw [seq_tup hr] at r
  exact fun Q E k=>call_tuple_same (PT.isTuple (show PT s.heap a vs from io)) (k _ t s (.refl _ _ _) R r)
theorem prim_list (R:Rel G t st s) (r:VRel t s.heap X v) (e:prim1 .list1 X st=.ok Z st'):Sim G A t s (call (.type "list") [v]) st' (vrel Z):=by
 obtain ⟨⟨k,l⟩,hr,e⟩:=oS_inv e
 obtain ⟨rfl,rfl⟩:=ok_inv e
 intro Q E q
 refine list_copy (T:=fun _=>True) R r hr fun h' vs hk hD rr sz=>?_
 have S:Step noX t t s { s with heap:=h' }:=Step.grow R hk rfl rfl
 exact q _ t _ S (R.grow hk rfl rfl) (VRel.madeL R S (size_none _) hD rr sz)
theorem prim1_sound (hq:d.q=true) (p:Prim) (hp:primOk p=true) (R:Rel G t st s) (hA:AOk d A) (r:VRel t s.heap X v) (e:prim1 p X st=.ok Z st'):Sim G A t s (call (primVal p) [v]) st' (vrel Z):=by
 cases p with
 | len=>exact prim_len R r e
 | int1=>cases e
 | tuple1=>exact prim_tuple R r e
 | list1=>exact prim_list R r e
 | all1=>cases e
 | max2=>exact no_stuck e
 | sorted=>exact no_ft hp
theorem prim_max {V1 V2:V} (hq:d.q=true) (R:Rel G t st s) (hA:AOk d A) (r1:VRel t s.heap V1 v) (r2:VRel t s.heap V2 w) (e:(match V1,V2 with
  | .int x,.int y=>Res.ok (V.int (if x < y then y else x)) st
  | _,_=>.stuck)=.ok Z st'):Sim G A t s (call (.builtin "max") [v,w]) st' (vrel Z):=by
 cases V1 with
 | int x=>cases V2 with
  | int y =>
   obtain ⟨rfl,rfl⟩:=ok_inv e
   obtain ⟨k1,rfl⟩:=r1
   obtain ⟨k2,rfl⟩:=r2
   intro Q E q
   refine max_two_ints (hA.hd hq) fun h' tk hk=>?_
   refine q _ t _ (Step.grow R hk rfl rfl) (R.grow hk rfl rfl) ?_
   by_cases z:x < y
   ·rw [if_pos (show y > x from z),if_pos z]; exact ⟨_,rfl⟩
   ·rw [if_neg (show ¬ y > x from z),if_neg z]; exact ⟨_,rfl⟩
  | _=>exact no_stuck e
 | _=>exact no_stuck e
theorem prim_sound (hq:d.q=true) (p:Prim) (hp:primOk p=true) {Vs:List V}{vs:List Value} (R:Rel G t st s) (hA:AOk d A) (r:VRels t s.heap Vs vs) (e:prim p Vs st=.ok Z st'):Sim G A t s (call (primVal p) vs) st' (vrel Z):=by
 cases Vs with
 | nil=>exact no_stuck e
 | cons V1 Vs=>cases Vs with
  | nil=>obtain ⟨v,_,rfl,r1,rfl⟩:=r; exact prim1_sound hq p hp R hA r1 e
  | cons V2 Vs=>cases Vs with
   | nil =>
    obtain ⟨v,_,rfl,r1,w,_,rfl,r2,rfl⟩:=r
    cases p with
    | max2=>exact prim_max hq R hA r1 r2 e
    | _=>exact no_stuck e
   | cons _ _=>exact no_stuck e
theorem built_glob (O:G.Ok N) (F:FrOk G A t env Γ loc s) (R:Rel G t st s) {x:PySem.Str}{pos:Pos}{Q E':Value→Shared→Prop} (hsc:env.scope.names=sc) (hg:glob sc x=true)
  (hx:x∈(["len","max","int","sorted","tuple","list","all","isinstance","range","dict","bool","str","ValueError"]:List PySem.Str)) (hb:bootBuiltins x=some v) (h:Q v s):wpAny G.M A (eval (.Name x pos) env) Q E' s :=
 glob_built O F R hsc hg (O.none x hx) hb (by intro z; subst z; revert hx; decide) h
theorem prim_boot (p:Prim) (hp:primOk p=true):bootBuiltins (primName p)=some (primVal p):=by
 cases p <;> first | exact absurd hp (by decide) | decide +kernel
theorem prim_in (p:Prim):primName p∈(["len","max","int","sorted","tuple","list","all","isinstance","range","dict","bool","str","ValueError"]:List PySem.Str):=by cases p <;> decide
theorem prim_keeps (p:Prim):Keeps G (primVal p):=by cases p <;> first | exact keeps_b _ | exact keeps_t _
theorem sim_prim (hq:d.q=true) (O:G.Ok N) {p:Prim} (hp:primOk p=true) {l:List E}{m:List PySem.Expr}{np pos:Pos} (hg:glob sc (primName p)=true) (hm:plainArgs m=true) (hlm:l.length=m.length) (hl:SimEs G C d sc Γ l m) :
  SimE G C d sc Γ (.prim p l) (.Call (.Name (primName p) np) m [] pos):=by
 intro t st s env loc X st' A hA hsc F R e Q E k
 rw [ev_prim] at e
 obtain ⟨Vs,s1,e1,e⟩:=Res.bind_ok e
 refine wpAny_Call_ofName (built_glob O F R hsc hg (prim_in p) (prim_boot p hp) ?_)
 refine with_go O (prim_keeps p) hm hlm hl hA hsc F R e1 fun vs t1 σ1 S1 R1 r1=>?_
 exact prim_sound hq p hp R1 hA r1 e _ _ fun v t2 σ2 S2 R2 r2=>k v t2 σ2 (S1.trans S2) R2 r2
theorem sim_listM (O:G.Ok N) {kd:Nat}{a:E}{x:PySem.Expr}{np pos:Pos} (hg:glob sc "list"=true) (hx:isStarred x=false) (ha:SimE G C d sc Γ a x) :
  SimE G C d sc Γ (.listM kd a) (.Call (.Name "list" np) [x] [] pos):=by
 intro t st s env loc X st' A hA hsc F R e Q E k
 rw [ev_listM] at e
 obtain ⟨V,s1,e1,e⟩:=Res.bind_ok e
 split at e
 ·rename_i kk l hr
  cases e
  refine wpAny_Call_ofName (built_glob O F R hsc hg (prim_in .list1) (prim_boot .list1 rfl) ?_)
  have e1':evL G.P C [a] loc st=.ok [V] s1:=by simp [evL_nil,evL_cons,e1,Res.bind]
  refine with_go O (prim_keeps .list1) (l:=[a]) (m:=[x]) (by simp [plainArgs,hx]) rfl (sim_es_cons hx ha sim_es_nil) hA hsc F R e1' fun vs t1 σ1 S1 R1 r1=>?_
  obtain ⟨v,_,rfl,r1,rfl⟩:=r1
  refine list_copy (T:=fun _=>True) R1 r1 hr fun h' vs hk hD rr sz=>?_
  have S:=Step.bind (k:=kd) (d:=none) (s':={ σ1 with heap:=h' }) R1 hk rfl rfl (size_none _) (fun x e=>by exact no_none e)
  have rho:(t1.bind (kd,s1.cnt kd) σ1.heap.objs.size none).ρ (kd,s1.cnt kd)=some σ1.heap.objs.size:=by simp [Tie.bind]
  refine k _ _ _ (S1.trans S) (Rel.bind R1 hk rfl rfl (size_none _) (fun x e=>by exact no_none e) ?_ (R1.size_sys O) ⟨_,vs,rho,hD,sz,VRels.step S (fun _ q=>q.elim) _ rr⟩) ⟨_,rfl,rho⟩
  obtain ⟨n,ho⟩:=hD
  show (Heap.get? h' _).isSome=true
  rw [ho]; rfl
 ·exact no_stuck e
end
end Mine
end
section
namespace Mine
open PySem PySem.W PyProof.Rows
section
variable {G:Gd}{N:Names}{C:Calls}{d:Dp}{sc:Sc}{Γ:Gam}{A:Around}{t:Tie}{st st':MS}{s:Shared}{env:Env}{loc:Loc}{X Y Z:V}{v w:Value}
theorem listAt_inv {p:Lbl×List V} (e:listAt X st=some p):X=.ref p.1∧st.heap p.1=some (.list p.2):=by
 cases X with
 | ref r =>
  have e:(match st.heap r with | some (.list l)=>some (r,l) | _=>none)=some p:=e
  cases h:st.heap r with
  | none=>rw [h] at e; exact no_none e
  | some o=>rw [h] at e; cases o with
   | list l=>cases e; exact ⟨rfl,h⟩
   | _=>exact no_none e
 | _=>exact no_none e
theorem dictAt_inv {p:Lbl×List (V×V)} (e:dictAt X st=some p):X=.ref p.1∧st.heap p.1=some (.dict p.2):=by
 cases X with
 | ref r =>
  have e:(match st.heap r with | some (.dict l)=>some (r,l) | _=>none)=some p:=e
  cases h:st.heap r with
  | none=>rw [h] at e; exact no_none e
  | some o=>rw [h] at e; cases o with
   | dict l=>cases e; exact ⟨rfl,h⟩
   | _=>exact no_none e
 | _=>exact no_none e
theorem listAt_real (R:Rel G t st s) {p:Lbl×List V} (hX:VRel t s.heap X v) (e:listAt X st=some p) :
  ∃ a vs n,v=.ref a∧t.ρ p.1=some a∧s.heap.get? a=some { cls:=.type "list",data:=.seq vs n }∧VRels t s.heap p.2 vs.toList∧p.2.length≤sizeMax∧st.heap p.1=some (.list p.2):=by
 obtain ⟨rfl,hr⟩:=listAt_inv e
 obtain ⟨a,vs,h1,⟨n,h2⟩,h3,h4⟩:=R.objs p.1 _ hr
 obtain ⟨a',h5,h6⟩:=hX
 cases h1.symm.trans h6
 exact ⟨a,vs,n,h5,h1,h2,h4,h3,hr⟩
theorem dictAt_real (R:Rel G t st s) {p:Lbl×List (V×V)} (hX:VRel t s.heap X v) (e:dictAt X st=some p) :
  ∃ a kvs,v=.ref a∧t.ρ p.1=some a∧s.heap.DictOf (strKind G.prog G.w) a kvs∧DRel t s.heap p.2 kvs∧st.heap p.1=some (.dict p.2):=by
 obtain ⟨rfl,hr⟩:=dictAt_inv e
 obtain ⟨a,kvs,h1,h2,h3⟩:=R.objs p.1 _ hr
 obtain ⟨a',h5,h6⟩:=hX
 cases h1.symm.trans h6
 exact ⟨a,kvs,h5,h1,h2,h3,hr⟩
theorem list_upd (R:Rel G t st s) {r:Lbl}{a:Addr}{l l':List V}{vs':Array Value}{h':Heap}{tk:Nat} (hr:st.heap r=some (.list l)) (ha:t.ρ r=some a) (hs:Heap.SameBut a s.heap h') (ho:PL h' a vs') (rr:VRels t s.heap l' vs'.toList) (sz:l'.length≤sizeMax) :
  Step noX t t.tick s { s with heap:=h',toks:=tk }∧Rel G t.tick (st.put r (.list l')) { s with heap:=h',toks:=tk }:=by
 have hl:(h'.get? a).isSome=true:=by obtain ⟨n,e⟩:=ho; rw [e]; rfl
 have S:=Step.upd (t:=t) (s:=s) (tk:=tk) ⟨r,.inl ha⟩ hl hs
 exact ⟨S,R.upd (l:=r) (.inl ha) hl hs (by rw [hr]; exact fun q=>by cases q) ⟨a,vs',ha,ho,sz,VRels.step S (fun _ z=>z.elim) _ rr⟩⟩
theorem seq_upd (R:Rel G t st s) {r:Lbl}{a:Addr}{l l':List V}{vs:Array Value}{n:Nat}{tk:Nat}{f:Array Value→Array Value} (hr:st.heap r=some (.list l)) (ha:t.ρ r=some a) (ho:s.heap.get? a=some { cls:=.type "list",data:=.seq vs n })
  (rr:VRels t s.heap l' (f vs).toList) (sz:l'.length≤sizeMax) :
  Step noX t t.tick s { s with heap:=s.heap.update a (Obj.mapSeq f),toks:=tk }∧Rel G t.tick (st.put r (.list l')) { s with heap:=s.heap.update a (Obj.mapSeq f),toks:=tk } :=
 list_upd R hr ha (Heap.SameBut.update ..) ⟨_,IsL.update ho f⟩ rr sz
noncomputable def bmVal:Bm→String
 | .append=>"list.append" | .extend=>"list.extend" | .pop=>"list.pop" | .insert=>"list.insert" | .count=>"list.count" | .get=>"dict.get" | .join=>"str.join" | .upper=>"str.upper"
noncomputable def bmType:Bm→String
 | .append=>"list" | .extend=>"list" | .pop=>"list" | .insert=>"list" | .count=>"list" | .get=>"dict" | .join=>"str" | .upper=>"str"
theorem bm_slot:(m:Bm)→Slot (bmType m) (bmName m) (bmVal m)
 | .append=>PySem.F.slot_list_append
 | .extend=>PySem.F.slot_list_extend
 | .pop=>PySem.F.slot_list_pop
 | .insert=>PySem.F.slot_list_insert
 | .count=>PySem.F.slot_list_count
 | .get=>PySem.F.slot_dict_get
 | .join=>PySem.F.slot_str_join
 | .upper=>PySem.F.slot_str_upper
theorem bm_type:(m:Bm)→typeOf (.builtin (bmVal m))=pure (.type "method_descriptor")
 | .append=>PySem.F.type_list_append
 | .extend=>PySem.F.type_list_extend
 | .pop=>PySem.F.type_list_pop
 | .insert=>PySem.F.type_list_insert
 | .count=>PySem.F.type_list_count
 | .get=>PySem.F.type_dict_get
 | .join=>PySem.F.type_str_join
 | .upper=>PySem.F.type_str_upper
theorem bm_attrs:(m:Bm)→PlainAttrs (bmType m)
 | .append=>PySem.F.plainAttrs_list
 | .extend=>PySem.F.plainAttrs_list
 | .pop=>PySem.F.plainAttrs_list
 | .insert=>PySem.F.plainAttrs_list
 | .count=>PySem.F.plainAttrs_list
 | .get=>PySem.F.plainAttrs_dict
 | .join=>PySem.F.plainAttrs_str
 | .upper=>PySem.F.plainAttrs_str
theorem idx_fits {i:Int}{n j:Nat} (h:idx i n=some j) (hn:n≤sizeMax):Builtin.List.listFitsIndex i=true:=by
 obtain ⟨h1,h2⟩:=idx_bd h hn
 delta Builtin.List.listFitsIndex
 simp only [Bool.and_eq_true,decide_eq_true_eq]
 lia
theorem bool_countP {h:Heap}:∀ {l:List V}{vs:List Value},allBool l=true→VRels t h l vs→(∀ y∈vs,∃ b,y=.bool b)∧vs.countP (isBoolOf true)=l.countP (·=.bool true)
 | [],_,_,r=>by cases r; exact ⟨fun y hy=>(nomatch hy),rfl⟩
 | .bool b :: l,_,e,⟨v,r,rfl,a,c⟩=>by
  have a':v=.bool b:=a
  subst a'
  obtain ⟨h1,h2⟩:=bool_countP (l:=l) e c
  refine ⟨fun y hy=>?_,?_⟩
  ·rcases List.mem_cons.mp hy with rfl | hy
   ·exact ⟨b,rfl⟩
   ·exact h1 y hy
  ·rw [List.countP_cons,List.countP_cons,h2]
   have hb:decide (V.bool b=V.bool true)=isBoolOf true (.bool b):=by
    cases b
    ·exact decide_eq_false nofun
    ·exact decide_eq_true rfl
   rw [hb]
 | .none :: _,_,e,_=>by exact no_ft e
 | .int _ :: _,_,e,_=>by exact no_ft e
 | .str _ :: _,_,e,_=>by exact no_ft e
 | .tup _ :: _,_,e,_=>by exact no_ft e
 | .lst _ :: _,_,e,_=>by exact no_ft e
 | .ref _ :: _,_,e,_=>by exact no_ft e
 | .exc _ :: _,_,e,_=>by exact no_ft e
theorem glue_fold:∀ (l:List PySem.Str) (acc:Array Nat),(l.foldl (fun acc p=>acc ++ (toStr []).cps ++ p.cps) acc).toList=acc.toList ++ (l.map (·.cps.toList)).flatten
 | [],acc=>by simp
 | y :: l,acc=>by
  rw [List.foldl_cons,glue_fold l]
  simp [toStr]
theorem join_nil (ys:List PySem.Str):Txt.join (toStr []) ys=toStr (ys.map (·.cps.toList)).flatten:=by
 have h:(Txt.join (toStr []) ys).cps.toList=(ys.map (·.cps.toList)).flatten:=by
  cases ys with
  | nil=>rfl
  | cons y l =>
   show (l.foldl (fun acc p=>acc ++ (toStr []).cps ++ p.cps) y.cps).toList=_
   rw [glue_fold]; simp
 rw [← h]
theorem catStrs_real {h:Heap}:∀ {l:List V}{vs:List Value}{x:List Nat},catStrs l=some x→VRels t h l vs→∃ ys:List PySem.Str,StrsAre vs ys∧(ys.map (·.cps.toList)).flatten=x∧(ys.map (·.length)).sum=x.length
 | [],_,_,e,r=>by cases r; cases e; exact ⟨[],.nil,rfl,rfl⟩
 | .str y :: l,_,_,e,⟨v,r,e0,⟨k,e9⟩,c⟩=>by
  subst e0; subst e9
  simp only [catStrs,Option.map_eq_some_iff] at e
  obtain ⟨x',e1,rfl⟩:=e
  obtain ⟨ys,h1,h2,h3⟩:=catStrs_real e1 c
  refine ⟨toStr y :: ys,.cons _ _ h1,?_,?_⟩
  ·rw [List.map_cons,List.flatten_cons,h2]
  ·rw [List.map_cons,List.sum_cons,h3,List.length_append]; simp [toStr,PySem.Str.length]
 | .none :: _,_,_,e,_=>by exact no_none e
 | .int _ :: _,_,_,e,_=>by exact no_none e
 | .bool _ :: _,_,_,e,_=>by exact no_none e
 | .tup _ :: _,_,_,e,_=>by exact no_none e
 | .lst _ :: _,_,_,e,_=>by exact no_none e
 | .ref _ :: _,_,_,e,_=>by exact no_none e
 | .exc _ :: _,_,_,e,_=>by exact no_none e
theorem bm_append {W:V} (R:Rel G t st s) (r1:VRel t s.heap X v) (r2:VRel t s.heap W w) (e:bm1 .append X W st=.ok Z st'):Sim G A t s (call (.builtin "list.append") [v,w]) st' (vrel Z):=by
 obtain ⟨p,hp,e⟩:=oL_inv e
 obtain ⟨hz,e⟩:=if_inv e
 refine Sim.ok e ?_
 obtain ⟨a,vs,n,rfl,h1,h2,h3,h4,h5⟩:=listAt_real R r1 hp
 intro Q E q
 refine call_meets PySem.F.slot_list_append ⟨_,h2,rfl⟩ PySem.F.entry_list_append (PySem.F.args_list_append_2 _ _) (list_append a vs n w (by rw [size_of h3]; exact h4)) ⟨h2,?_⟩
 have u:=seq_upd (tk:=s.toks) (f:=fun xs=>xs.push w) (l':=p.2 ++ [W]) R h5 h1 h2 (by rw [Array.toList_push]; exact h3.append ⟨w,[],rfl,r2,rfl⟩) (by rw [List.length_append]; exact hz)
 exact q _ t.tick _ u.1 u.2 rfl
theorem sum_fit {m n a b:Nat} (s1:m=a) (s2:n=b) (h:a + b≤sizeMax):m + n≤sizeLine:=by subst s1 s2; exact h
theorem bm_extend {W:V} (R:Rel G t st s) (r1:VRel t s.heap X v) (r2:VRel t s.heap W w) (e:bm1 .extend X W st=.ok Z st'):Sim G A t s (call (.builtin "list.extend") [v,w]) st' (vrel Z):=by
 obtain ⟨p,hp,e⟩:=oL_inv e
 obtain ⟨⟨k,l2⟩,hp2,e⟩:=oS_inv e
 obtain ⟨hz,e⟩:=if_inv e
 refine Sim.ok e ?_
 obtain ⟨a,vs,n,rfl,h1,h2,h3,h4,h5⟩:=listAt_real R r1 hp
 obtain ⟨b,ws,rfl,io,rr,sz⟩:=seqOf_real R r2 hp2
 have hs:=sum_fit (size_of h3) (size_of rr) hz
 intro Q E q
 have u:=seq_upd (tk:=s.toks) (f:=fun xs=>xs ++ ws) (l':=p.2 ++ l2) R h5 h1 h2 (by rw [Array.toList_append]; exact h3.append rr) (by rw [List.length_append]; exact hz)
 have q1:=q _ t.tick _ u.1 u.2 rfl
 have h4:vs.size≤sizeLine:=by rw [size_of h3]; exact h4
 cases k with
 | true =>
  obtain ⟨n2,io⟩:=io
  exact call_meets PySem.F.slot_list_extend ⟨_,h2,rfl⟩ PySem.F.entry_list_extend (PySem.F.args_list_extend_2 _ _) (AutoSeq1.list_extend_list_list_0 a vs n b ws n2 (extend_door hs) h4 (Nat.le_succ_of_le hs)) ⟨h2,io,q1⟩
 | false =>
  obtain ⟨n2,io⟩:=io
  exact call_meets PySem.F.slot_list_extend ⟨_,h2,rfl⟩ PySem.F.entry_list_extend (PySem.F.args_list_extend_2 _ _) (AutoSeq1.list_extend_list_tuple_0 a vs n b ws n2 (extend_door hs) h4 (Nat.le_succ_of_le hs)) ⟨h2,io,q1⟩
theorem toList_erase {vs:Array Value}{j:Nat} (h:j < vs.size):(vs.eraseIdxIfInBounds j).toList=vs.toList.eraseIdx j:=by
 delta Array.eraseIdxIfInBounds; rw [dif_pos h,Array.toList_eraseIdx]
theorem bm_pop {W:V} (R:Rel G t st s) (r1:VRel t s.heap X v) (r2:VRel t s.heap W w) (e:bm1 .pop X W st=.ok Z st'):Sim G A t s (call (.builtin "list.pop") [v,w]) st' (vrel Z):=by
 obtain ⟨p,hp,e⟩:=oL_inv e
 obtain ⟨i,rfl,e⟩:=int_inv e
 obtain ⟨j,hj,e⟩:=oN_inv e
 obtain ⟨y,hy,e⟩:=oV_inv e
 refine Sim.ok e ?_
 obtain ⟨a,vs,n,rfl,h1,h2,h3,h4,h5⟩:=listAt_real R r1 hp
 obtain ⟨k,rfl⟩:=r2
 obtain ⟨y',e1,e2⟩:=VRels.get h3 hy
 rw [Array.getElem?_toList] at e1
 intro Q E q
 have u:=seq_upd (tk:=s.toks) (f:=fun xs=>xs.eraseIdxIfInBounds j) (l':=p.2.eraseIdx j) R h5 h1 h2 (by rw [toList_erase (Array.getElem?_eq_some_iff.1 e1).1]; exact h3.eraseIdx j) (Nat.le_trans (List.length_eraseIdx_le ..) h4)
 refine call_meets PySem.F.slot_list_pop ⟨_,h2,rfl⟩ PySem.F.entry_list_pop (PySem.F.args_list_pop_2 _ _) (PySem.MeetsSeq.list_pop_at a _ n i k j y' (idx_fits hj h4) (by rw [size_of h3]; exact (idx_seqIndex hj).1) e1 (by rw [size_of h3]; exact h4)) ⟨h2,?_⟩
 exact q _ t.tick _ u.1 u.2 (VRel.step u.1 (fun _ z=>z.elim) _ e2)
theorem bm_count {W:V} (R:Rel G t st s) (r1:VRel t s.heap X v) (r2:VRel t s.heap W w) (e:bm1 .count X W st=.ok Z st'):Sim G A t s (call (.builtin "list.count") [v,w]) st' (vrel Z):=by
 obtain ⟨l,rfl,e⟩:=lst_inv e
 obtain ⟨b',rfl,e⟩:=bool_inv e
 obtain ⟨hb1,e1⟩:=if_inv e
 obtain ⟨rfl,hb⟩:=Bool.and_eq_true_iff.1 hb1
 refine Sim.ok e1 ?_
 obtain ⟨a,vs,rfl,⟨n,ho⟩,_,sz,rr⟩:=r1
 rw [show w=.bool true from r2]
 obtain ⟨c1,c2⟩:=bool_countP hb rr
 intro Q E q
 refine call_meets PySem.F.slot_list_count ⟨_,ho,rfl⟩ PySem.F.entry_list_count (PySem.F.args_list_count_2 _ _) (SeqAt.list_countAt a vs n none #[] (.bool true) (isBoolOf true)) ⟨ho,fun y hy=>?_,?_⟩
 ·obtain ⟨b,rfl⟩:=c1 y (Array.mem_toList_iff.mpr hy)
  exact SeqAt.EqAt.bool_bool b true
 ·rw [c2]; exact q _ t _ (Step.toks _ t s _) (R.toks _) ⟨_,rfl⟩
theorem bm_join {W:V} (R:Rel G t st s) (r1:VRel t s.heap X v) (r2:VRel t s.heap W w) (e:bm1 .join X W st=.ok Z st'):Sim G A t s (call (.builtin "str.join") [v,w]) st' (vrel Z):=by
 obtain ⟨x0,rfl,e⟩:=str_inv e
 cases x0 with
 | cons=>exact no_stuck e
 | nil =>
  obtain ⟨l,rfl,e⟩:=lst_inv e
  obtain ⟨x,hx,e⟩:=oT_inv e
  obtain ⟨hz,e⟩:=if_inv e
  refine Sim.ok e ?_
  obtain ⟨a,vs,rfl,io,_,sz,rr⟩:=r2
  obtain ⟨k,rfl⟩:=r1
  obtain ⟨ys,h1,h2,h3⟩:=catStrs_real hx rr
  intro Q E q
  refine join_list io.isList h1 (by rw [h3]; exact hz) fun t' k=>?_
  exact q _ t _ (Step.toks _ t s _) (R.toks _) ⟨t',by show Value.str (Txt.join (toStr []) ys) t'=_; rw [join_nil,h2]⟩
theorem bm1_sound {m:Bm}{W:V} (O:G.Ok N) (R:Rel G t st s) (hA:AOk d A) (r1:VRel t s.heap X v) (r2:VRel t s.heap W w) (e:bm1 m X W st=.ok Z st'):Sim G A t s (call (.builtin (bmVal m)) [v,w]) st' (vrel Z):=by
 cases m with
 | append=>exact bm_append R r1 r2 e
 | extend=>exact bm_extend R r1 r2 e
 | pop=>exact bm_pop R r1 r2 e
 | count=>exact bm_count R r1 r2 e
 | join=>exact bm_join R r1 r2 e
 | _=>exact no_stuck e
noncomputable def bmUse:Bm→Bool
 | _=>true
theorem ins_list {vs:Array Value}{u:Value}{i:Int} (h0:0≤i) (hi:i.toNat≤vs.size) :
  (have k:=if i < 0 then (i + (vs.size:Int)).toNat else min i.toNat vs.size; (vs.extract 0 k).push u ++ vs.extract k).toList=vs.toList.take i.toNat ++ u :: vs.toList.drop i.toNat:=by
 dsimp only
 rw [if_neg (Int.not_lt.2 h0),Nat.min_eq_left hi,Array.toList_append,Array.toList_push,Array.toList_extract,Array.toList_extract,List.append_assoc]
 simp only [List.extract,Nat.sub_zero,List.drop_zero,List.singleton_append]
 rw [List.take_of_length_le (l:=vs.toList.drop i.toNat) (by rw [List.length_drop,Array.length_toList]; exact Nat.le_refl _)]
theorem bm_insert {W U:V}{u:Value} (R:Rel G t st s) (r1:VRel t s.heap X v) (r2:VRel t s.heap W w) (r3:VRel t s.heap U u) (e:bm2 .insert X W U st=.ok Z st'):Sim G A t s (call (.builtin "list.insert") [v,w,u]) st' (vrel Z):=by
 obtain ⟨p,hp,e⟩:=oL_inv e
 obtain ⟨i,rfl,e⟩:=int_inv e
 obtain ⟨⟨h0,hi,hz⟩,e⟩:=if_inv e
 refine Sim.ok e ?_
 obtain ⟨a,vs,n,rfl,h1,h2,h3,h4,h5⟩:=listAt_real R r1 hp
 obtain ⟨k,rfl⟩:=r2
 have hsz:=size_of h3
 have hin:i.toNat≤vs.size:=by rw [hsz]; omega
 have fits:Builtin.List.listFitsIndex i=true:=idx_fits (n:=p.2.length + 1) (j:=i.toNat) ((if_pos h0).trans (if_pos (by omega))) hz
 intro Q E q
 have u':=seq_upd (tk:=s.toks) (f:=fun xs=>have k:=if i < 0 then (i + (xs.size:Int)).toNat else min i.toNat xs.size; (xs.extract 0 k).push u ++ xs.extract k) (l':=p.2.take i.toNat ++ U :: p.2.drop i.toNat) R h5 h1 h2 (by rw [ins_list h0 hin]; exact (h3.take _).append ⟨u,_,rfl,r3,h3.drop _⟩) (by rw [List.length_append,List.length_cons,List.length_take,List.length_drop]; show _≤16777216; have:p.2.length < 16777216:=hz; omega)
 refine call_meets PySem.F.slot_list_insert ⟨_,h2,rfl⟩ PySem.F.entry_list_insert (PySem.F.args_list_insert_3 _ _ _) (AutoSeq1.list_insert_list_int_val_1 a vs n i k u (by rw [fits]; exact nofun) (by rw [hsz]; exact h4)) ⟨h2,?_⟩
 exact q _ t.tick _ u'.1 u'.2 rfl
theorem bm2_sound {m:Bm} (hm:bmUse m=true) {W U:V}{u:Value} (O:G.Ok N) (R:Rel G t st s) (hA:AOk d A) (r1:VRel t s.heap X v) (r2:VRel t s.heap W w) (r3:VRel t s.heap U u) (e:bm2 m X W U st=.ok Z st'):Sim G A t s (call (.builtin (bmVal m)) [v,w,u]) st' (vrel Z):=by
 cases m with
 | insert=>exact bm_insert R r1 r2 r3 e
 | _=>exact no_stuck e
theorem up_str {x:List Nat} (h:∀ c∈x,97≤c∧c≤122):Txt.upper (toStr x)=toStr (x.map (· - 32)):=by
 rw [upper_ascii fun c hc=>Nat.lt_of_le_of_lt (h c hc).2 (by decide)]
 show (⟨x.toArray.map up1⟩:PySem.Str)=⟨(x.map (· - 32)).toArray⟩
 rw [List.map_toArray,List.map_congr_left (f:=up1) (g:=(· - 32)) fun c hc=>if_pos (h c hc)]
theorem bm_upper (R:Rel G t st s) (r1:VRel t s.heap X v) (e:bm0 .upper X st=.ok Z st'):Sim G A t s (call (.builtin "str.upper") [v]) st' (vrel Z):=by
 obtain ⟨x,rfl,e⟩:=str_inv e
 obtain ⟨h,e⟩:=if_inv e
 obtain ⟨h1,h2⟩:=Bool.and_eq_true_iff.1 h
 have h1:∀ c∈x,97≤c∧c≤122:=fun c hc=>by
  obtain ⟨q1,q2⟩:=Bool.and_eq_true_iff.1 (List.all_eq_true.1 h1 c hc)
  exact ⟨of_decide_eq_true q1,of_decide_eq_true q2⟩
 refine Sim.ok e ?_
 obtain ⟨k,rfl⟩:=r1
 intro Q E q
 refine PySem.SC.upper (fit_upper (Nat.le_trans (show (toStr x).length≤1000 from of_decide_eq_true h2) (by decide))) ?_
 rw [up_str h1]
 exact q _ t _ (Step.toks _ t s _) (R.toks _) ⟨_,rfl⟩
theorem bmeth_sound {m:Bm} (hm:bmUse m=true) {Vs:List V}{vs:List Value} (O:G.Ok N) (R:Rel G t st s) (hA:AOk d A) (r1:VRel t s.heap X v) (r2:VRels t s.heap Vs vs) (e:bmeth m X Vs st=.ok Z st'):Sim G A t s (call (.builtin (bmVal m)) (v :: vs)) st' (vrel Z):=by
 cases Vs with
 | nil =>
  cases m with
  | upper=>cases r2; exact bm_upper R r1 e
  | _=>exact no_stuck e
 | cons W Vs =>
  obtain ⟨w,_,rfl,r2,r3⟩:=r2
  cases Vs with
  | nil=>cases r3; exact bm1_sound O R hA r1 r2 e
  | cons U Vs =>
   obtain ⟨u,_,rfl,r3,r4⟩:=r3
   cases Vs with
   | nil=>cases r4; exact bm2_sound hm O R hA r1 r2 r3 e
   | cons _ _=>exact no_stuck e
noncomputable abbrev BmT (s:Shared) (v:Value) (n:String):Prop:=s.TypeIs v n∧∀ a,v=.ref a→∃ ob,s.heap.get? a=some ob∧ob.dict=none
theorem bmT_at {a:Addr}{o:Obj}{n:String} (h:s.heap.get? a=some o) (h1:o.cls=.type n) (h2:o.dict=none):BmT s (.ref a) n:=⟨⟨o,h,h1⟩,fun a' z=>by cases z; exact ⟨o,h,h2⟩⟩
theorem bmT_list (R:Rel G t st s) (r1:VRel t s.heap X v) (e:(listAt X st).isSome=true):BmT s v "list":=by
 obtain ⟨p,hp⟩:=Option.isSome_iff_exists.mp e
 obtain ⟨a,vs,n,rfl,h1,h2,_⟩:=listAt_real R r1 hp
 exact bmT_at h2 rfl rfl
theorem bmT_dict (R:Rel G t st s) (r1:VRel t s.heap X v) (e:(dictAt X st).isSome=true):BmT s v "dict":=by
 obtain ⟨p,hp⟩:=Option.isSome_iff_exists.mp e
 obtain ⟨a,kvs,rfl,h1,h2,_⟩:=dictAt_real R r1 hp
 exact ⟨h2.typeIs,h2.mapOf.noDict⟩
theorem bmT_str (e:(match X with | .str _=>true | _=>false)=true) (r1:VRel t s.heap X v):BmT s v "str":=by
 cases X with
 | str x=>obtain ⟨k,rfl⟩:=r1; exact ⟨typeIs_str _ _ _,fun a z=>by cases z⟩
 | _=>exact no_ft e
theorem bmT_lst (e:(match X with | .lst _=>true | _=>false)=true) (r1:VRel t s.heap X v):BmT s v "list":=by
 cases X with
 | lst x=>obtain ⟨a,vs,rfl,⟨n,ho⟩,_⟩:=r1; exact bmT_at ho rfl rfl
 | _=>exact no_ft e
theorem bm_isType {m:Bm} (R:Rel G t st s) (r1:VRel t s.heap X v) (e:bmOk m X st=true):BmT s v (bmType m):=by
 cases m with
 | count=>exact bmT_lst e r1
 | get=>exact bmT_dict R r1 e
 | join=>exact bmT_str e r1
 | upper=>exact bmT_str e r1
 | _=>exact bmT_list R r1 e
theorem sim_bm (O:G.Ok N) {m:Bm} (hmu:bmUse m=true) {a:E}{x:PySem.Expr}{l:List E}{es:List PySem.Expr}{ap pos:Pos} (hx:notSuper x=true) (hln:(ap.endLine == pos.line)=true) (h30:es.length < 30) (hm:plainArgs es=true) (hlm:l.length=es.length)
  (ha:SimE G C d sc Γ a x) (hl:SimEs G C d sc Γ l es):SimE G C d sc Γ (.bm m a l) (.Call (.Attribute x (bmName m) ap) es [] pos):=by
 intro t st s env loc X st' A hA hsc F R e Q E q
 rw [ev_bm] at e
 obtain ⟨V,s1,e1,e⟩:=Res.bind_ok e
 obtain ⟨hok,e⟩:=if_inv e
 ·obtain ⟨Vs,s2,e2,e⟩:=Res.bind_ok e
  refine wpAny_Call_method (base_plain hx _ _) (meth_form hm h30) hln (bm_attrs m) (bm_slot m) (bm_type m) ?_
  refine ha t st s env loc _ _ A hA hsc F R e1 _ _ fun v t1 σ1 S1 R1 r1=>?_
  obtain ⟨b1,b2⟩:=bm_isType R1 r1 hok
  refine ⟨b1,b2,?_⟩
  refine with_go O (keeps_b _) hm hlm hl hA hsc (F.step R S1) R1 e2 fun vs t2 σ2 S2 R2 r2=>?_
  exact bmeth_sound hmu O R2 hA (VRel.step S2 (fun _ z=>z.elim) _ r1) r2 e _ _ fun v t3 σ3 S3 R3 r3=>q v t3 σ3 ((S1.trans S2).trans S3) R3 r3
end
end Mine
end
section
namespace Mine
open PySem PySem.W PyProof.Rows
section
variable {prog:Program}{w:World}{A:Around}{E:Value→Shared→Prop}{s:Shared}
theorem slicePart_of (o:Option (Int×Tok)) {Q:Option Int→Shared→Prop} (h:Q (o.map (·.1)) s):wpAny (model prog w) A (Builtin.Slice.slicePartIndex (partValue o)) Q E s:=by
 cases o with
 | none=>exact slicePart_none h
 | some p=>exact slicePart_int h
theorem adjust_of (l u:Option Int) (n i j:Nat) (hl:l.elim 0 (clipAt n)=i) (hu:u.elim n (clipAt n)=j):Builtin.Slice.sliceAdjust l u 1 (n:Int)=((i:Int),(j:Int)):=by
 subst hl; subst hu
 have h1:¬ ((1:Int) < 0):=by decide
 have hc:∀ v:Int,((clipAt n v:Nat):Int)=if v < 0 then max (v + n) 0 else min v n:=fun v=>by
  rw [clipAt_cast]
  split <;> lia
 unfold Builtin.Slice.sliceAdjust
 simp only [h1,if_false]
 cases l <;> cases u <;> simp only [Option.elim,hc] <;> rfl
theorem places_of (i j:Nat):Builtin.Slice.slicePlaces (i:Int) (j:Int) 1=j - i:=by
 unfold Builtin.Slice.slicePlaces
 have h1:(1:Int) > 0:=by decide
 simp only [h1,if_true,Int.ediv_one]
 split <;> lia
theorem pick_of (xs:Array Value) (i j:Nat):((List.range (j - i)).filterMap fun (k:Nat)=>xs[((i:Int) + (k:Int) * 1).toNat]?).toArray=((xs.toList.drop i).take (j - i)).toArray:=by
 have e:(fun (k:Nat)=>xs[((i:Int) + (k:Int) * 1).toNat]?)=fun k=>xs[i + k]?:=by
  funext k
  have:((i:Int) + (k:Int) * 1).toNat=i + k:=by lia
  rw [this]
 rw [e]
 have:=pick_run xs i (j - i)
 rw [List.filterMap_map] at this
 exact congrArg List.toArray this
theorem sliceApplied_of {sl:Addr}{n i j:Nat}{o1 o2:Option (Int×Tok)}{Q:Int×Int×Nat→Shared→Prop} (hs:s.heap.IsSliceOf sl (partValue o1) (partValue o2) .none) (hl:(o1.map (·.1)).elim 0 (clipAt n)=i) (hu:(o2.map (·.1)).elim n (clipAt n)=j) (h:Q ((i:Int),1,j - i) s) :
  wpAny (model prog w) A (Builtin.Slice.sliceApplied (.ref sl) (pure (n:Int))) Q E s:=by
 obtain ⟨os,hos,hcs,hds⟩:=id hs
 unfold Builtin.Slice.sliceApplied Builtin.Slice.sliceFields
 refine wpAny_bind (wpAny_bind (wpAny_field hos hds (x:=partValue o1) rfl (wpAny_bind (wpAny_field hos hds (x:=partValue o2) rfl (wpAny_bind (wpAny_field hos hds (x:=.none) rfl (wpAny_pure ?_)))))))
 refine wpAny_bind (slicePart_none ?_)
 show wpAny _ _ (if ((1:Int) == 0)=true then _ else _) _ _ s
 rw [if_neg (by decide)]
 refine wpAny_bind (slicePart_of o1 (wpAny_bind (slicePart_of o2 (wpAny_bind (wpAny_pure ?_)))))
 show wpAny _ _ (match Builtin.Slice.sliceAdjust (o1.map (·.1)) (o2.map (·.1)) 1 (n:Int) with | (lo,hi)=>pure (lo,(1:Int),Builtin.Slice.slicePlaces lo hi 1)) _ _ s
 rw [adjust_of _ _ n i j hl hu]
 show wpAny _ _ (pure ((i:Int),(1:Int),Builtin.Slice.slicePlaces (i:Int) (j:Int) 1)) _ _ s
 rw [places_of]
 exact wpAny_pure h
theorem tup_slice_wp {t sl:Addr}{items:Array Value}{o1 o2:Option (Int×Tok)}{i j:Nat}{Q:Value→Shared→Prop} (ht:IsTup s.heap t items) (hs:s.heap.IsSliceOf sl (partValue o1) (partValue o2) .none) (hl:(o1.map (·.1)).elim 0 (clipAt items.size)=i) (hu:(o2.map (·.1)).elim items.size (clipAt items.size)=j) (hw:j - i≠items.size) (hsz:items.size≤sizeLine)
  (h:Q (.ref s.heap.objs.size) { s with heap:=s.heap.push { cls:=.type "tuple",data:=.seq ((items.toList.drop i).take (j - i)).toArray } }):wpAny (model prog w) A (PySem.getItem (.ref t) (.ref sl)) Q E s:=by
 have hok:sizeOk (.seq ((items.toList.drop i).take (j - i)).toArray):=by
  show ((items.toList.drop i).take (j - i)).toArray.size≤sizeLine
  rw [List.size_toArray,List.length_take,List.length_drop,Array.length_toList]
  lia
 obtain ⟨os,hos,hcs,hds⟩:=id hs
 have hTs:s.TypeIs (.ref sl) "slice":=⟨os,hos,hcs⟩
 unfold PySem.getItem
 try with_reducible refine wpAny_holding ?_
 first | refine wpAny_bind (wpAny_pure ?_) | skip
 refine wpAny_bind (wpAny_sequenceKey ht.typeIs (by decide) ?_)
 refine wpAny_bind (wpAny_callSpecial?_slot (name:=Str.ofString "__getitem__") ht.typeIs slot_tuple_getitem
  (wpAny_call_entry slot_tuple_getitem ht.typeIs entry_tuple_getitem ?_ (args_tuple_getitem _ _)))
 show wpAny _ _ (Builtin.Tuple.tupleItemsOf (.ref t) >>= _) _ _ s
 refine wpAny_bind (tupleItemsOf_ ht ?_)
 refine wpAny_bind (wpAny_typeOf hTs ?_)
 rw [if_pos (by decide)]
 refine wpAny_bind (sliceApplied_of hs hl hu ?_)
 have hno:¬ (((i:Int) == 0 && (1:Int) == 1 && (j - i) == items.size)=true):=by
  rw [beq_eq_false_iff_ne.2 hw,Bool.and_false]; exact Bool.false_ne_true
 show wpAny _ _ (if ((i:Int) == 0 && (1:Int) == 1 && (j - i) == items.size)=true then _ else _) _ _ s
 rw [if_neg hno,pick_of items i j]
 first
  | exact wpAny_bind (m:=Builtin.Tuple.tupleExact _) (wpAny_newObj_type (wpAny_pure ⟨_,rfl,wpAny_pure h⟩) hok)
  | exact wpAny_bind (m:=Builtin.Tuple.tupleExact _) (wpAny_newObj_type (wpAny_bind (wpAny_pure (wpAny_pure ⟨_,rfl,wpAny_pure h⟩))) hok)
  | exact wpAny_bind (wpAny_bind (m:=Builtin.Tuple.tupleExact _) (wpAny_newObj_type (wpAny_pure (wpAny_pure ⟨_,rfl,wpAny_pure h⟩)) hok))
  | exact wpAny_bind (wpAny_bind (m:=Builtin.Tuple.tupleExact _) (wpAny_newObj_type (wpAny_pure ⟨_,rfl,wpAny_pure h⟩) hok))
end
end Mine
end
section
namespace Mine
open PySem PySem.W PyProof.Rows
section
variable {G:Gd}{N:Names}{C:Calls}{d:Dp}{sc:Sc}{Γ:Gam}{A:Around}{t:Tie}{st st':MS}{s:Shared}{env:Env}{loc:Loc}{X Y Z:V}{v w:Value}
noncomputable abbrev prel (p:Option V):Tie→Shared→Value→Prop:=fun t s v=>match p with | none=>v=.none | some X=>VRel t s.heap X v
noncomputable def SimO (G:Gd) (C:Calls) (d:Dp) (sc:Sc) (Γ:Gam) (e:Option E) (ast:Option PySem.Expr):Prop :=
 ∀ t st s env loc p st' A,AOk d A→env.scope.names=sc→FrOk G A t env Γ loc s→Rel G t st s→evO G.P C e loc st=.ok p st'→Sim G A t s (evalPart ast env) st' (prel p)
theorem simO_none:SimO G C d sc Γ none none:=by
 intro t st s env loc p st' A hA hsc F R e Q E k
 simp only [evO_none,evO_some] at e
 cases e
 exact wpAny_pure (k _ t s (.refl _ _ _) R rfl)
theorem simO_some {e:E}{x:PySem.Expr} (h:SimE G C d sc Γ e x):SimO G C d sc Γ (some e) (some x):=by
 intro t st s env loc p st' A hA hsc F R e Q E k
 simp only [evO_none,evO_some] at e
 obtain ⟨v,s1,e1,e⟩:=Res.bind_ok e
 cases e
 exact h t st s env loc v _ A hA hsc F R e1 _ _ fun y t1 σ1 S1 R1 r1=>k y t1 σ1 S1 R1 r1
theorem cutAt_inv {D i:Nat}{X:V} (e:cutAt D (some X)=some i):X=.int i:=by
 cases X with
 | int z =>
  have e:(if 0≤z then some z.toNat else Option.none)=some i:=e
  by_cases h:0≤z
  ·rw [if_pos h] at e; cases e; rw [Int.toNat_of_nonneg h]
  ·rw [if_neg h] at e; exact no_none e
 | _=>exact no_none e
theorem cut_part {D n:Nat}{p:Option V}{i:Nat} (e:cutAt D p=some i) (r:prel p t s v):∃ o:Option (Int×Tok),v=partValue o∧(o.map (·.1)).elim (min D n) (clipAt n)=min i n:=by
 cases p with
 | none=>cases e; exact ⟨none,r,rfl⟩
 | some X =>
  cases cutAt_inv e
  obtain ⟨k,rfl⟩:=r
  exact ⟨some (i,k),rfl,clipAt_nat ..⟩
theorem isPart_of (o:Option (Int×Tok)):IsPart (partValue o) (o.map (·.1)):=by
 cases o with
 | none=>exact .none
 | some p=>exact .int p.1 p.2
theorem cut_list {α:Type} (l:List α) (i j n:Nat) (hn:n=l.length):(l.drop (min i n)).take (min j n - min i n)=(l.take j).drop i:=by
 rw [List.drop_take]
 subst hn
 rcases Nat.le_total i l.length with h | h
 ·rw [Nat.min_eq_left h]
  rcases Nat.le_total j l.length with h2 | h2
  ·rw [Nat.min_eq_left h2]
  ·rw [Nat.min_eq_right h2,List.take_of_length_le (by simp),List.take_of_length_le (by simp; lia)]
 ·rw [Nat.min_eq_right h,List.drop_of_length_le (Nat.le_refl _),List.drop_of_length_le h]; simp
theorem str_slice (x:List Nat) (l u:Option Int) (i j:Nat) (hl:l.elim 0 (clipAt x.length)=min i x.length) (hu:u.elim x.length (clipAt x.length)=min j x.length):Txt.slice (toStr x) l u=toStr ((x.take j).drop i):=by
 have hlen:(toStr x).length=x.length:=by simp [toStr,PySem.Str.length]
 have hidx:Builtin.Str.strSliceIndices l u 1 x.length=(List.range (min j x.length - min i x.length)).map (min i x.length + ·):=by
  rw [← sliceRange_one]
  unfold Builtin.Str.strSliceIndices
  simp only [show (1:Int) > 0 by decide,if_true]
  rw [← hl,← hu]
  cases l <;> cases u <;> simp [clipAt_cast]
 have hpick:=pick_run x.toArray (min i x.length) (min j x.length - min i x.length)
 unfold Txt.slice
 rw [hlen,hidx]
 split
 ·rename_i hw
  simp only [BEq.rfl,Bool.true_and,List.length_map,List.length_range,beq_iff_eq] at hw
  rw [← cut_list x i j _ rfl]
  have h1:min i x.length=0:=by lia
  rw [h1] at hw ⊢
  rw [hw]; simp
 ·show PySem.Str.mk _=PySem.Str.mk _
  congr 1
  rw [← cut_list x i j _ rfl]
  show (List.filterMap (fun k=>x.toArray[k]?) _).toArray=_
  rw [hpick]
theorem str_slice_wp {x:PySem.Str}{tk:Tok}{a:Addr}{l u:Option (Int×Tok)}{Q E:Value→Shared→Prop} (hs:s.heap.IsSlice a l u none) (hsz:x.length≤sizeLine)
  (h:∀ t' k,Q (.str (Txt.slice x (l.map (·.1)) (u.map (·.1))) t') { s with toks:=k }):wpAny G.M A (PySem.getItem (.str x tk) (.ref a)) Q E s :=
 wpAny_getItem_str_slice hs rfl (post_val_or_str ⟨Nat.le_trans (Txt.slice_le x _ _) hsz,h⟩)
theorem cut_le {α:Type} (m:List α) (i j:Nat):((m.take j).drop i).length≤m.length:=by
 rw [List.length_drop,List.length_take]; exact Nat.le_trans (Nat.sub_le ..) (Nat.min_le_right ..)
theorem cut_part_ne {m:List V}{i j:Nat} (h:((m.take j).drop i).length < m.length):min j m.length - min i m.length≠m.length:=by
 rw [List.length_drop,List.length_take] at h
 omega
noncomputable abbrev slObj (vl vu:Value):Obj:={ cls:=.type "slice",data:=.fields #[vl,vu,.none] }
theorem slice_lst {B:V}{p q:Option V}{vl vu:Value}{x:PySem.Expr}{l u:Option PySem.Expr}{sp:Pos}{m:List V}{i j:Nat} (R:Rel G t st s) (r1:VRel t s.heap B v) (r2:prel p t s vl) (r3:prel q t s vu)
  (hm:seqOf st B=some (true,m)) (hi:cutAt 0 p=some i) (hj:cutAt m.length q=some j) {Q E:Value→Shared→Prop} (k:∀ v t' s',Step noX t t' s s'→Rel G t' st s'→VRel t' s'.heap (.lst ((m.take j).drop i)) v→Q v s') :
  wpAny G.M A (subscriptTail x (.Slice l u none sp) v (.ref s.heap.objs.size)) Q E { s with heap:=s.heap.push (slObj vl vu) }:=by
 obtain ⟨a,vs,rfl,io,rr,sz⟩:=seqOf_real R r1 hm
 have hsz:vs.size=m.length:=size_of rr
 obtain ⟨o1,rfl,p1⟩:=cut_part (n:=m.length) hi r2
 obtain ⟨o2,rfl,p2⟩:=cut_part (n:=m.length) hj r3
 rw [Nat.zero_min] at p1
 rw [Nat.min_self] at p2
 have S4:=Step.push R (slObj (partValue o1) (partValue o2))
 have R4:=R.push (slObj (partValue o1) (partValue o2))
 have io4:=(PL.isList (show PL s.heap a vs from io)).push (slObj (partValue o1) (partValue o2))
 refine tail_any io4.typeIs slot_list_getitem.lookup (wpAny_getItem_list_slice io4 (Heap.IsSliceOf.new ..) (isPart_of o1) (isPart_of o2) .none nofun ?_ (by rw [hsz]; exact sz)) rfl
 have hpick:slicePick vs (o1.map (·.1)) (o2.map (·.1)) none=((vs.toList.take j).drop i).toArray:=by
  rw [slicePick_plain,hsz,p1,p2,cut_list _ _ _ _ (hsz.symm.trans Array.length_toList.symm)]
 refine k _ t _ (S4.trans (Step.push R4 { cls:=.type "list",data:=.seq (slicePick vs (o1.map (·.1)) (o2.map (·.1)) none) })) (R4.push _) ?_
 rw [hpick]
 exact VRel.newL R4 (VRels.drop i (VRels.take j (VRels.step S4 (fun _ z=>z.elim) _ rr))) (Nat.le_trans (cut_le m i j) sz)
theorem slice_tup {B:V}{p q:Option V}{vl vu:Value}{x:PySem.Expr}{l u:Option PySem.Expr}{sp:Pos}{m:List V}{i j:Nat} (R:Rel G t st s) (r1:VRel t s.heap B v) (r2:prel p t s vl) (r3:prel q t s vu)
  (hm:seqOf st B=some (false,m)) (hi:cutAt 0 p=some i) (hj:cutAt m.length q=some j) (hw:((m.take j).drop i).length < m.length) {Q E:Value→Shared→Prop} (k:∀ v t' s',Step noX t t' s s'→Rel G t' st s'→VRel t' s'.heap (.tup ((m.take j).drop i)) v→Q v s') :
  wpAny G.M A (subscriptTail x (.Slice l u none sp) v (.ref s.heap.objs.size)) Q E { s with heap:=s.heap.push (slObj vl vu) }:=by
 obtain ⟨a,vs,rfl,⟨n,io⟩,rr,sz⟩:=seqOf_real R r1 hm
 have hsz:vs.size=m.length:=size_of rr
 obtain ⟨o1,rfl,p1⟩:=cut_part (n:=m.length) hi r2
 obtain ⟨o2,rfl,p2⟩:=cut_part (n:=m.length) hj r3
 rw [Nat.zero_min] at p1
 rw [Nat.min_self] at p2
 have S4:=Step.push R (slObj (partValue o1) (partValue o2))
 have R4:=R.push (slObj (partValue o1) (partValue o2))
 have io4:IsTup (s.heap.push (slObj (partValue o1) (partValue o2))) a vs:=⟨_,Heap.get?_push_of_some _ io,rfl,n,rfl⟩
 refine tail_any io4.typeIs slot_tuple_getitem.lookup (tup_slice_wp (i:=min i m.length) (j:=min j m.length) io4 (Heap.IsSliceOf.new ..) (by rw [hsz]; exact p1) (by rw [hsz]; exact p2) (by rw [hsz]; exact cut_part_ne hw) (by rw [hsz]; exact sz) ?_) rfl
 rw [cut_list vs.toList i j _ (hsz.symm.trans Array.length_toList.symm)]
 exact k _ t _ (S4.trans (Step.push R4 { cls:=.type "tuple",data:=.seq ((vs.toList.take j).drop i).toArray })) (R4.push _) (VRel.newT R4 (VRels.drop i (VRels.take j (VRels.step S4 (fun _ z=>z.elim) _ rr))) (Nat.le_trans (cut_le m i j) sz))
theorem slice_str {y:List Nat}{p q:Option V}{vl vu:Value}{x:PySem.Expr}{l u:Option PySem.Expr}{sp:Pos}{i j:Nat} (R:Rel G t st s) (r1:VRel t s.heap (.str y) v) (r2:prel p t s vl) (r3:prel q t s vu)
  (hz:y.length≤sizeMax) (hi:cutAt 0 p=some i) (hj:cutAt y.length q=some j) {Q E:Value→Shared→Prop} (k:∀ v t' s',Step noX t t' s s'→Rel G t' st s'→VRel t' s'.heap (.str ((y.take j).drop i)) v→Q v s') :
  wpAny G.M A (subscriptTail x (.Slice l u none sp) v (.ref s.heap.objs.size)) Q E { s with heap:=s.heap.push (slObj vl vu) }:=by
 obtain ⟨ky,rfl⟩:=r1
 obtain ⟨o1,rfl,p1⟩:=cut_part (n:=y.length) hi r2
 obtain ⟨o2,rfl,p2⟩:=cut_part (n:=y.length) hj r3
 rw [Nat.zero_min] at p1
 rw [Nat.min_self] at p2
 refine tail_any (typeIs_str _ _ _) PySem.F.slot_str_getitem.lookup (str_slice_wp (l:=o1) (u:=o2) ⟨_,Heap.get?_push_size _ rfl,rfl,rfl⟩ hz fun t' k'=>?_) rfl
 exact k _ t _ ((Step.push R _).trans (Step.toks _ _ _ k')) ((R.push _).toks k') ⟨t',by rw [str_slice y _ _ i j p1 p2]⟩
theorem cuts_inv {o1 o2:Option Nat}{f:Nat→Nat→Res V}{Z:V} (e:(match o1,o2 with | some i,some j=>f i j | _,_=>.stuck)=.ok Z st'):∃ i j,o1=some i∧o2=some j∧f i j=.ok Z st':=by
 cases o1 with
 | none=>exact no_stuck e
 | some i=>cases o2 with
  | none=>exact no_stuck e
  | some j=>exact ⟨i,j,rfl,rfl,e⟩
theorem seq_slice {B:V}{p q:Option V}{vl vu:Value}{x:PySem.Expr}{l u:Option PySem.Expr}{sp:Pos} (R:Rel G t st s) (r1:VRel t s.heap B v) (r2:prel p t s vl) (r3:prel q t s vu)
  (e:(match (motive:=_→Res V) seqOf st B with
  | some (true,l)=>match cutAt 0 p,cutAt l.length q with
   | some i,some j=>Res.ok (V.lst ((l.take j).drop i)) st
   | _,_=>.stuck
  | some (false,l)=>match cutAt 0 p,cutAt l.length q with
   | some i,some j=>if ((l.take j).drop i).length < l.length then Res.ok (V.tup ((l.take j).drop i)) st else .stuck
   | _,_=>.stuck
  | Option.none=>.stuck)=.ok Z st') {Q E:Value→Shared→Prop} (k:∀ v t' s',Step noX t t' s s'→Rel G t' st' s'→VRel t' s'.heap Z v→Q v s') :
  wpAny G.M A (subscriptTail x (.Slice l u none sp) v (.ref s.heap.objs.size)) Q E { s with heap:=s.heap.push (slObj vl vu) }:=by
 cases hm:seqOf st B with
 | none=>rw [hm] at e; exact no_stuck e
 | some m =>
  rw [hm] at e
  obtain ⟨b,m⟩:=m
  cases b with
  | true =>
   obtain ⟨i,j,hi,hj,e⟩:=cuts_inv e
   obtain ⟨rfl,rfl⟩:=ok_inv e
   exact slice_lst R r1 r2 r3 hm hi hj k
  | false =>
   obtain ⟨i,j,hi,hj,e⟩:=cuts_inv e
   obtain ⟨hw,e⟩:=if_inv e
   obtain ⟨rfl,rfl⟩:=ok_inv e
   exact slice_tup R r1 r2 r3 hm hi hj hw k
theorem txt_slice {y:List Nat}{p q:Option V}{vl vu:Value}{x:PySem.Expr}{l u:Option PySem.Expr}{sp:Pos} (R:Rel G t st s) (r1:VRel t s.heap (.str y) v) (r2:prel p t s vl) (r3:prel q t s vu)
  (e:getSlice (.str y) p q st=.ok Z st') {Q E:Value→Shared→Prop} (k:∀ v t' s',Step noX t t' s s'→Rel G t' st' s'→VRel t' s'.heap Z v→Q v s') :
  wpAny G.M A (subscriptTail x (.Slice l u none sp) v (.ref s.heap.objs.size)) Q E { s with heap:=s.heap.push (slObj vl vu) }:=by
 obtain ⟨i,j,hi,hj,e⟩:=cuts_inv e
 obtain ⟨hz,e⟩:=if_inv e
 obtain ⟨rfl,rfl⟩:=ok_inv e
 exact slice_str R r1 r2 r3 hz hi hj k
theorem prel_step {t':Tie}{s':Shared}{p:Option V} (S:Step noX t t' s s') (r:prel p t s v):prel p t' s' v:=by
 cases p with
 | none=>exact r
 | some X=>exact VRel.step S (fun _ z=>z.elim) _ r
theorem sim_slice {a:E}{lo hi:Option E}{x:PySem.Expr}{l u:Option PySem.Expr}{sp pos:Pos} (ha:SimE G C d sc Γ a x) (hlo:SimO G C d sc Γ lo l) (hhi:SimO G C d sc Γ hi u):SimE G C d sc Γ (.slice a lo hi) (.Subscript x (.Slice l u none sp) pos):=by
 intro t st s env loc X st' A hA hsc F R e Q E k
 rw [ev_slice] at e
 obtain ⟨B,s1,e1,e⟩:=Res.bind_ok e
 obtain ⟨p,s2,e2,e⟩:=Res.bind_ok e
 obtain ⟨q,s3,e3,e⟩:=Res.bind_ok e
 refine Subscript_ (ha t st s env loc _ _ A hA hsc F R e1 _ _ fun v t1 σ1 S1 R1 r1=>?_)
 have F1:=F.step R S1
 refine wpAny_Slice (hlo t1 s1 σ1 env loc p s2 A hA hsc F1 R1 e2 _ _ fun vl t2 σ2 S2 R2 r2=>?_)
 refine hhi t2 s2 σ2 env loc q s3 A hA hsc (F1.step R1 S2) R2 e3 _ _ fun vu t3 σ3 S3 R3 r3=>?_
 rw [evalPart_none]
 refine wpAny_pure ?_
 have r1':=VRel.step (S2.trans S3) (fun _ z=>z.elim) _ r1
 have k':∀ v t' s',Step noX t3 t' σ3 s'→Rel G t' st' s'→VRel t' s'.heap X v→Q v s':=fun v t' s' S4=>k v t' s' (((S1.trans S2).trans S3).trans S4)
 cases B with
 | str y=>exact txt_slice R3 r1' (prel_step S3 r2) r3 e k'
 | _=>exact seq_slice R3 r1' (prel_step S3 r2) r3 e k'
end
end Mine
end
section
set_option maxRecDepth 100000
namespace Mine
open PySem PySem.W PyProof.Rows
section
variable {G:Gd}{N:Names}{C:Calls}{d:Dp}{sc:Sc}{Γ:Gam}{A:Around}{t:Tie}{st st':MS}{s:Shared}{env:Env}{loc:Loc}{X Y Z:V}{v w:Value}
noncomputable def tagName:Tag→String
 | .none=>"NoneType" | .bool=>"bool" | .int=>"int" | .str=>"str" | .tuple=>"tuple" | .list=>"list" | .dict=>"dict"
noncomputable def kindStr:Kind→String
 | .int=>"int" | .bool=>"bool" | .str=>"str" | .list=>"list" | .tuple=>"tuple" | .valueError=>"ValueError" | .cls _=>""
noncomputable def kindUse:Kind→Bool
 | .int=>true | .bool=>true | .str=>true | .list=>true | .tuple=>true | _=>false
theorem kit_eq (K:Frag) (g:Tag) (k:Kind) (hk:kindUse k=true):kitOne K (.type (tagName g)) (.type (kindStr k))=kindHas g k:=by
 cases k with
 | valueError=>exact no_ft hk
 | cls=>exact no_ft hk
 | _=>cases g <;> kernel_rfl
theorem kit_tag (K:Frag) (g:Tag) (k:Kind) (hk:kindUse k=true) {b:Bool} (e:kindHas g k=some b):kitOne K (.type (tagName g)) (.type (kindStr k))=some b:=(kit_eq K g k hk).trans e
noncomputable abbrev KT (G:Gd) (s:Shared) (v:Value) (n:String):Prop:=∃ H,KitX G.K v (.type n) H∧H s.heap∧v≠.builtin "__main__.__loader__#opaque"
theorem tag_at {g g':Tag} (hv:v=w) (h:KT G s w (tagName g')) (e:some g'=some g):KT G s v (tagName g):=by cases e; cases hv; exact h
theorem tag_list {a:Addr}{vs:Array Value} (h:PL s.heap a vs):KT G s (.ref a) "list":=h.elim fun _ ho=>⟨_,kitx_list,⟨_,ho,rfl⟩,nofun⟩
theorem tag_tup {a:Addr}{vs:Array Value} (h:PT s.heap a vs):KT G s (.ref a) "tuple":=h.elim fun _ ho=>⟨_,kitx_tuple,⟨_,ho,rfl⟩,nofun⟩
theorem tag_ref (R:Rel G t st s) {g:Tag}{l:Lbl} (r:VRel t s.heap (.ref l) v) (e:tagOf st (.ref l)=some g):KT G s v (tagName g):=by
 have e:(match st.heap l with | some (.list _)=>some Tag.list | some (.dict _)=>some Tag.dict | _=>none)=some g:=e
 obtain ⟨a',hv,e2⟩:=r
 cases hl:st.heap l with
 | none=>rw [hl] at e; exact no_none e
 | some o =>
  rw [hl] at e
  cases o with
  | list m =>
   obtain ⟨a,vs,h1,h2,_⟩:=R.objs l _ hl
   cases h1.symm.trans e2
   exact tag_at hv (tag_list h2) e
  | dict m =>
   obtain ⟨a,kvs,h1,h2,_⟩:=R.objs l _ hl
   cases h1.symm.trans e2
   obtain ⟨o,h3,h4⟩:=h2.typeIs
   exact tag_at hv ⟨_,kitx_dict,⟨o,h3,h4⟩,nofun⟩ e
  | _=>exact no_none e
theorem tag_kit (R:Rel G t st s) {g:Tag} (r:VRel t s.heap X v) (e:tagOf st X=some g):∃ H,KitX G.K v (.type (tagName g)) H∧H s.heap∧v≠.builtin "__main__.__loader__#opaque":=by
 cases X with
 | none=>exact tag_at r ⟨_,kitx_none,trivial,nofun⟩ e
 | bool b=>exact tag_at r ⟨_,kitx_bool,trivial,nofun⟩ e
 | int i=>exact r.elim fun _ hv=>tag_at hv ⟨_,kitx_int,trivial,nofun⟩ e
 | str i=>exact r.elim fun _ hv=>tag_at hv ⟨_,kitx_str,trivial,nofun⟩ e
 | tup l=>obtain ⟨a,vs,hv,ho,_⟩:=r; exact tag_at hv (tag_tup ho) e
 | lst l=>obtain ⟨a,vs,hv,ho,_⟩:=r; exact tag_at hv (tag_list ho) e
 | exc c=>exact no_none e
 | ref l=>exact tag_ref R r e
theorem tagm_inv {o:Option Tag}{f:Tag→Option Bool}{b:Bool} (e:(match o with | some g=>f g | Option.none=>Option.none)=some b):∃ g,o=some g∧f g=some b:=by
 cases o with
 | none=>exact no_none e
 | some g=>exact ⟨g,rfl,e⟩
theorem isKind_tag {P:Prog}{k:Kind}{b:Bool} (hk:kindUse k=true) (e:isKind P st X k=some b):∃ g,tagOf st X=some g∧kindHas g k=some b:=by
 cases X with
 | exc d =>
  cases k with
  | valueError=>exact no_ft hk
  | cls=>exact no_ft hk
  | _=>exact no_none e
 | _=>exact tagm_inv e
theorem isKinds_any {P:Prog} (K:Frag):∀ {ks:List Kind}{b:Bool}{g:Tag},(∀ k∈ks,kindUse k=true)→tagOf st X=some g→isKinds P st X ks=some b→kitAny K (.type (tagName g)) (ks.map fun k=>.type (kindStr k))=some b
 | [],_,_,_,_,e=>by cases e; rfl
 | k :: ks,b,g,hu,hg,e=>by
  simp only [isKinds] at e
  simp only [List.map_cons,kitAny]
  cases q:isKind P st X k with
  | none=>rw [q] at e; exact no_none e
  | some b' =>
   rw [q] at e
   obtain ⟨g',h1,h2⟩:=isKind_tag (hu k (.head _)) q
   rw [hg] at h1; cases h1
   rw [kit_tag K g k (hu k (.head _)) h2]
   cases b' with
   | true=>cases e; rfl
   | false=>exact isKinds_any K (fun k hk=>hu k (.tail _ hk)) hg e
theorem kind_boot (k:Kind) (hk:kindUse k=true):∃ x:PySem.Str,kindName k=some x∧bootBuiltins x=some (.type (kindStr k))∧x∈(["len","max","int","sorted","tuple","list","all","isinstance","range","dict","bool","str","ValueError"]:List PySem.Str):=by
 cases k <;> first | exact (Bool.false_ne_true hk).elim | exact ⟨_,rfl,by decide +kernel,by decide⟩
theorem kind_eval (O:G.Ok N) (F:FrOk G A t env Γ loc s) (R:Rel G t st s) (hsc:env.scope.names=sc) {k:Kind} (hk:kindUse k=true) {y:PySem.Expr} (hc:chkKind N sc k y=true) {Q E':Value→Shared→Prop} (h:Q (.type (kindStr k)) s):isStarred y=false∧wpAny G.M A (eval y env) Q E' s:=by
 obtain ⟨x,h1,h2,h3⟩:=kind_boot k hk
 cases y with
 | Name x' p =>
  obtain ⟨hx,hg⟩:=Bool.and_eq_true_iff.1 (hc:(kindName k == some x' && glob sc x')=true)
  cases h1.symm.trans (eq_of_beq hx)
  exact ⟨rfl,built_glob O F R hsc hg h3 h2 h⟩
 | _=>exact no_ft hc
theorem kinds_eval (O:G.Ok N) (hsc:env.scope.names=sc) (pos:Pos):∀ {ks:List Kind}{ys:List PySem.Expr}{Q:List Value→Shared→Prop}{E':Value→Shared→Prop},(∀ k∈ks,kindUse k=true)→chkKinds N sc ks ys=true→∀ {t:Tie}{st:MS}{s:Shared},FrOk G A t env Γ loc s→Rel G t st s →
  Q (ks.map fun k=>.type (kindStr k)) s→wpAny G.M A (spliced (backTo pos (starEach ys env))) Q E' s
 | [],[],_,_,_,_,_,_,_,_,_,h=>Calls.spliced_nil h
 | [],_ :: _,_,_,_,e,_,_,_,_,_,_=>by exact no_ft e
 | _ :: _,[],_,_,_,e,_,_,_,_,_,_=>by exact no_ft e
 | k :: ks,y :: ys,Q,E',hu,e,t,st,s,F,R,h=>by
  have e:=Bool.and_eq_true_iff.1 (e:(chkKind N sc k y && chkKinds N sc ks ys)=true)
  have hs:=(kind_eval (A:=A) (Q:=fun _ _=>True) (E':=fun _ _=>True) O F R hsc (hu k (.head _)) e.1 trivial).1
  refine wpAny_items_cons (kind_eval O F R hsc (hu k (.head _)) e.1 ?_).2 (star_false hs ys env)
  exact kinds_eval O hsc pos (fun k hk=>hu k (.tail _ hk)) e.2 F R h
theorem args2_go {f:Value}{pos:Pos}{x y:PySem.Expr}{Q:Args→Shared→Prop}{E':Value→Shared→Prop} (hx:isStarred x=false) (hy:isStarred y=false)
  (h:wpAny G.M A (eval x env) (fun v s1=>wpAny G.M A (eval y env) (fun w s2=>Q ⟨[v,w],[]⟩ s2) E' s1) E' s):wpAny G.M A (evalArgs f true (backTo pos (starEach [x,y] env)) []) Q E' s:=by
 have q:wpAny G.M A (spliced (backTo pos (starEach [x,y] env))) (fun vs s'=>Q ⟨vs,[]⟩ s') E' s:=by
  refine wpAny_items_cons (wpAny_mono h (fun v s1 h1=>?_) fun _ _ e=>e) (star_false hx [y] env)
  refine wpAny_items_cons (wpAny_mono h1 (fun w s2 h2=>?_) fun _ _ e=>e) (star_false hy [] env)
  exact Calls.spliced_nil h2
 rw [star_false hx] at q ⊢
 exact Calls.evalArgs_plain q
theorem sim_isinst1 (O:G.Ok N) {a:E}{x y:PySem.Expr}{k:Kind}{np pos:Pos} (hk:kindUse k=true) (hg:glob sc "isinstance"=true) (hx:isStarred x=false) (hc:chkKind N sc k y=true) (ha:SimE G C d sc Γ a x) :
  SimE G C d sc Γ (.isinst a [k]) (.Call (.Name "isinstance" np) [x,y] [] pos):=by
 intro t st s env loc X st' A hA hsc F R e Q E q
 rw [ev_isinst] at e
 obtain ⟨V,s1,e1,e⟩:=Res.bind_ok e
 unfold okB at e
 split at e
 ·rename_i b hb
  obtain ⟨rfl,rfl⟩:X=.bool b∧st'=s1:=by cases e; exact ⟨rfl,rfl⟩
  have hy:=(kind_eval (A:=A) (Q:=fun _ _=>True) (E':=fun _ _=>True) O F R hsc hk hc trivial).1
  have hkk:isKind G.P st' V k=some b:=by
   simp only [isKinds] at hb
   cases z:isKind G.P st' V k with
   | none=>rw [z] at hb; exact no_none hb
   | some b'=>rw [z] at hb; cases b' <;> exact hb
  obtain ⟨g,g1,g2⟩:=isKind_tag hk hkk
  refine wpAny_Call_ofName (built_glob (v:=.builtin "isinstance") O F R hsc hg (by decide) (by decide +kernel) ?_)
  refine callWith_of (P:=G.K.In) (by rw [star_plain pos env (m:=[x,y]) (by simp [plainArgs,hx,hy])]; rfl) (keeps_b _) (args2_go hx hy ?_)
  refine ha t st s env loc _ _ A hA hsc F R e1 _ _ fun v t1 σ1 S1 R1 r1=>?_
  refine (kind_eval O (F.step R S1) R1 hsc hk hc ?_).2
  have XK:=O.K.keeps R1.base
  refine ⟨XK,?_⟩
  obtain ⟨H,Z,hH,hne⟩:=tag_kit R1 r1 g1
  exact kia_one Z XK hH (kit_tag G.K g k hk g2) hne fun tk=>q _ t1 _ (S1.trans (Step.toks _ _ _ tk)) (R1.toks tk) rfl
 ·exact no_stuck e
theorem sim_isinst2 (O:G.Ok N) {a:E}{x:PySem.Expr}{ys:List PySem.Expr}{k k':Kind}{np pos tp:Pos}{cx:Nat} (hk:kindUse k=true) (hk':kindUse k'=true) (hg:glob sc "isinstance"=true) (hx:isStarred x=false) (hc:chkKinds N sc [k,k'] ys=true) (ha:SimE G C d sc Γ a x) :
  SimE G C d sc Γ (.isinst a [k,k']) (.Call (.Name "isinstance" np) [x,.Tuple ys cx tp] [] pos):=by
 intro t st s env loc X st' A hA hsc F R e Q E q
 rw [ev_isinst] at e
 obtain ⟨V,s1,e1,e⟩:=Res.bind_ok e
 unfold okB at e
 split at e
 ·rename_i b hb
  obtain ⟨rfl,rfl⟩:X=.bool b∧st'=s1:=by cases e; exact ⟨rfl,rfl⟩
  have hu:∀ z∈[k,k'],kindUse z=true:=by intro z hz; simp at hz; rcases hz with rfl | rfl <;> assumption
  obtain ⟨b0,hb0⟩:∃ b0,isKind G.P st' V k=some b0:=by
   simp only [isKinds] at hb
   cases z:isKind G.P st' V k with
   | none=>rw [z] at hb; exact no_none hb
   | some b'=>exact ⟨b',rfl⟩
  obtain ⟨g,g1,g2⟩:=isKind_tag hk hb0
  refine wpAny_Call_ofName (built_glob (v:=.builtin "isinstance") O F R hsc hg (by decide) (by decide +kernel) ?_)
  refine callWith_of (P:=G.K.In) (by rw [star_plain pos env (m:=[x,.Tuple ys cx tp]) (by show (!isStarred x && (!false && true))=true; rw [hx]; rfl)]; rfl) (keeps_b _) (args2_go hx rfl ?_)
  refine ha t st s env loc _ _ A hA hsc F R e1 _ _ fun v t1 σ1 S1 R1 r1=>?_
  refine wpAny_Tuple (kinds_eval O hsc _ hu hc (F.step R S1) R1 ⟨by rw [List.length_map,sizeLine_eq]; exact Nat.le_of_ble_eq_true rfl,?_⟩)
  have R2:=R1.push { cls:=.type "tuple",data:=.seq ([k,k'].map fun k=>Value.type (kindStr k)).toArray }
  have S2:=Step.push R1 { cls:=.type "tuple",data:=.seq ([k,k'].map fun k=>Value.type (kindStr k)).toArray }
  have XK:=O.K.keeps R2.base
  refine ⟨XK,?_⟩
  obtain ⟨H,Z,hH,hne⟩:=tag_kit R2 (VRel.step S2 (fun _ z=>z.elim) _ r1) g1
  exact kia_tup Z XK hH (Heap.get?_push_size _ rfl) (isKinds_any G.K hu g1 hb) hne fun tk=>q _ t1 _ ((S1.trans S2).trans (Step.toks _ _ _ tk)) (R2.toks tk) rfl
 ·exact no_stuck e
end
end Mine
end
section
set_option maxRecDepth 100000
namespace Mine
open PySem PySem.W PyProof.Rows
section
variable {G:Gd}{N:Names}{C:Calls}{d:Dp}{sc:Sc}{Γ:Gam}{A:Around}{t:Tie}{st st':MS}{s:Shared}{env:Env}{loc:Loc}{X Y Z:V}{v w:Value}
theorem stored_cons (k k':PySem.Str) (u y:Value) (r:List (PySem.Str×Value)) (h:k'≠k):stored ((k',u) :: r) k y=(k',u) :: stored r k y:=by
 unfold stored
 simp only [List.any_cons,h,decide_false,Bool.false_or,List.map_cons,if_false]
 split <;> rfl
theorem stored_head (k:PySem.Str) (u y:Value) (r:List (PySem.Str×Value)) (h:k ∉ r.map (·.1)):stored ((k,u) :: r) k y=(k,y) :: r:=by
 unfold stored
 simp only [List.any_cons,decide_true,Bool.true_or,if_true,List.map_cons]
 congr 1
 conv=>rhs; rw [← List.map_id r]
 refine List.map_congr_left fun p hp=>?_
 rw [if_neg (fun z=>h (List.mem_map.mpr ⟨p,hp,z⟩))]; rfl
theorem toStr_inj {a b:List Nat} (h:toStr a=toStr b):a=b:=by
 have:=congrArg (fun z=>z.cps.toList) h
 simpa [toStr] using this
theorem DRel.put {h:Heap}{x:List Nat}{y:Value}:∀ {dd:List (V×V)}{kvs:List (PySem.Str×Value)},DRel t h dd kvs→(kvs.map (·.1)).Nodup→VRel t h Y y→DRel t h (dput (.str x) Y dd) (stored kvs (toStr x) y)
 | [],_,e,_,r=>by cases e; exact ⟨x,y,[],rfl,rfl,r,rfl⟩
 | (k,u) :: r,_,⟨z,y',rest,e1,e2,e3,e4⟩,nd,ry=>by
  subst e1; subst e2
  rw [List.map_cons,List.nodup_cons] at nd
  by_cases q:z=x
  ·subst q
   rw [stored_head _ _ _ _ nd.1]
   have hh:dput (.str z) Y ((V.str z,u) :: r)=(V.str z,Y) :: r:=if_pos (decide_eq_true rfl)
   rw [hh]
   exact ⟨z,y,rest,rfl,rfl,ry,e4⟩
  ·have q':toStr z≠toStr x:=fun e=>q (toStr_inj e)
   rw [stored_cons _ _ _ _ _ q']
   have hh:dput (.str x) Y ((V.str z,u) :: r)=(V.str z,u) :: dput (.str x) Y r:=if_neg (by rw [show keyEq (V.str z) (V.str x)=decide (z=x) from rfl,decide_eq_false q]; exact Bool.false_ne_true)
   rw [hh]
   exact ⟨z,y',_,rfl,rfl,e3,DRel.put e4 nd.2 ry⟩
theorem DRel.length {h:Heap}:∀ {dd:List (V×V)}{kvs:List (PySem.Str×Value)},DRel t h dd kvs→kvs.length=dd.length
 | [],_,e=>by cases e; rfl
 | (k,u) :: r,_,⟨z,y',rest,e1,e2,e3,e4⟩=>by subst e2; simp [DRel.length e4]
theorem dictOf_some {h:Heap}{a:Addr}{kvs:List (PySem.Str×Value)} (hd:h.DictOf (strKind G.prog G.w) a kvs):(h.get? a).isSome=true:=by
 obtain ⟨o,es,ep,ho,_⟩:=hd; rw [ho]; rfl
theorem set_dict {U:V}{u:Value}{r:Unit} (R:Rel G t st s) (hX:VRel t s.heap X v) (hY:VRel t s.heap Y w) (hU:VRel t s.heap U u) (e:(match dictAt X st with
  | some p=>if Y.isKey∧p.2.length < sizeMax then Res.ok () (st.put p.1 (.dict (dput Y U p.2))) else .stuck
  | Option.none=>.stuck)=.ok r st'):Sim G A t s (PySem.setItem v w u) st' (fun _ _ _=>True):=by
 obtain ⟨p,hp,e⟩:=oD_inv e
 obtain ⟨hk,e⟩:=if_inv e
 obtain ⟨rfl,rfl⟩:=ok_inv e
 obtain ⟨a,kvs,rfl,h1,h2,h3,h4⟩:=dictAt_real R hX hp
 obtain ⟨x,rfl⟩:=isKey_inv hk.1
 obtain ⟨k,rfl⟩:=hY
 intro Q E q
 have nd:(kvs.map (·.1)).Nodup:=let ⟨o,es,ep,a1,a2,a3,a4,a5,a6⟩:=h2; a6
 refine wpAny_setItem_pairs (strKind_is G.prog G.w (toStr x) k) h2 (fun h' hd hs=>?_) (by rw [h3.length]; exact Nat.le_of_lt hk.2)
 have hl:=dictOf_some hd
 have S:=Step.upd (t:=t) (s:=s) (tk:=s.toks + 1) ⟨p.1,.inl h1⟩ hl hs
 exact q _ t.tick _ S (R.upd (l:=p.1) (.inl h1) hl hs (by rw [h4]; exact fun z=>no_none z.symm) ⟨a,_,h1,hd,DRel.step S (fun _ z=>z.elim) (DRel.put h3 nd hU)⟩) trivial
theorem setItem_sound {U:V}{u:Value}{r:Unit} (R:Rel G t st s) (hX:VRel t s.heap X v) (hY:VRel t s.heap Y w) (hU:VRel t s.heap U u) (e:setItem X Y U st=.ok r st'):Sim G A t s (PySem.setItem v w u) st' (fun _ _ _=>True):=by
 exact set_dict R hX hY hU e
theorem sim_dict0 (O:G.Ok N) {kd:Nat}{pos:Pos}:SimE G C d sc Γ (.dictM kd [] []) (.Dict [] [] pos):=by
 intro t st s env loc X st' A hA hsc F R e Q E k
 simp only [ev_dictM,evL_nil,evL_cons,Res.bind] at e
 rw [if_pos ⟨rfl,by decide,List.nodup_nil⟩] at e
 obtain ⟨rfl,rfl⟩:X=.ref (kd,st.cnt kd)∧st'=st.new kd (.dict []):=by cases e; exact ⟨rfl,rfl⟩
 refine wpAny_Dict_empty ?_
 have hk:∀ b o,s.heap.get? b=some o→(s.heap.push ({ cls:=.type "dict",data:=.dict #[] }:Obj)).get? b=some o:=fun _ _ e=>Heap.get?_push_of_some _ e
 have S:=Step.bind (k:=kd) (d:=none) (s':={ s with heap:=s.heap.push { cls:=.type "dict",data:=.dict #[] } }) R hk rfl rfl (size_none _) (fun x e=>by exact no_none e)
 have rho:(t.bind (kd,st.cnt kd) s.heap.objs.size none).ρ (kd,st.cnt kd)=some s.heap.objs.size:=by simp [Tie.bind]
 refine k _ _ _ S (Rel.bind R hk rfl rfl (size_none _) (fun x e=>by exact no_none e) ?_ (R.size_sys O) ⟨_,[],rho,?_,rfl⟩) ⟨_,rfl,rho⟩
 ·show ((s.heap.push _).get? _).isSome=true; rw [Heap.get?_push_size _ rfl]; rfl
 ·exact Heap.DictOf.new _
end
end Mine
end
section
set_option maxRecDepth 100000
namespace Mine
open PySem PySem.W PyProof.Rows
section
variable {G:Gd}{N:Names}{C:Calls}{d:Dp}{sc:Sc}{Γ:Gam}{A:Around}{t:Tie}{st st':MS}{s:Shared}{env:Env}{loc:Loc}{X Y Z:V}{v w:Value}
theorem Rel.hideGrow (R:Rel G t st s) {s':Shared}{P:Addr→Prop}{l₁:List Env} (np:∀ a,P a→s.heap.get? a=none) (hk:∀ b o,s.heap.get? b=some o→s'.heap.get? b=some o) (hl:∀ a,P a→(s'.heap.get? a).isSome=true) (hg:s'.gens=s.gens) (ho:s'.os=s.os) :
  Rel G (t.hideS P l₁) st s' where
 base b o e:=hk b o (R.base b o e)
 apart a q:=by
  rcases q with q | q | q
  ·exact R.apart a (.inl q)
  ·exact R.apart a (.inr q)
  ·cases z:G.h₀.get? a with
   | none=>rfl
   | some o=>have:=R.base a o z; rw [np a q] at this; exact no_none this
 live a q:=by
  have old:t.Avoid a→(s'.heap.get? a).isSome=true:=fun q=>by obtain ⟨o,e⟩:=Option.isSome_iff_exists.mp (R.live a q); rw [hk a o e]; rfl
  rcases q with q | q | q
  ·exact old (.inl q)
  ·exact old (.inr q)
  ·exact hl a q
 pv a q o:=by
  rcases q with q | q
  ·exact R.pv a q o
  ·have:=R.live a (.inl o); rw [np a q] at this; exact no_ft this
 injρ:=R.injρ
 injδ:=R.injδ
 two:=R.two
 objs l o e:=by
  have S:Step noX (t.hideS P l₁) (t.hideS P l₁) s s':=⟨.refl _,fun a o e _ _ _=>hk a o e,fun a o e _ _ _=>⟨o.slots,hk a o e⟩,fun _ o=>.inl o,fun a o e=>by rw [hk a o e]; rfl,hg,ho⟩
  exact (ObjOk.map (t:=t) (t':=t.hideS P l₁) (fun _ _ e=>e) (fun _ _ e=>e) (Tie.hid np) (fun _ _ _ e=>e) (R.objs l o e)).step S (fun _ x=>x.elim) fun a o _ e=>hk a o e
 cnt:=R.cnt
 sys:=R.sys
 wr:=R.wr
set_option genCtorIdx false in
structure Forget (P L:Addr→Prop) (t₁ t₂:Tie) (s₁ s₂:Shared):Prop where
 ρ:t₂.ρ=t₁.ρ
 δ:t₂.δ=t₁.δ
 pv:∀ a,t₂.pv a→t₁.pv a∧¬ P a
 hP:∀ a,P a→t₁.pv a
 hL:∀ a,L a→t₁.pv a∧(s₂.heap.get? a).isSome=true
 keep:∀ b o,¬ P b→¬ L b→s₁.heap.get? b=some o→s₂.heap.get? b=some o
 gens:s₂.gens=s₁.gens
 os:s₂.os=s₁.os
 wr:t₂.wr=t₁.wr
theorem Forget.own {P L:Addr→Prop}{t₁ t₂:Tie}{s₁ s₂:Shared} (F:Forget P L t₁ t₂ s₁ s₂) {a:Addr}:t₂.Own a ↔ t₁.Own a:=by
 unfold Tie.Own; rw [F.ρ,F.δ]
theorem Forget.avoid {P L:Addr→Prop}{t₁ t₂:Tie}{s₁ s₂:Shared} (F:Forget P L t₁ t₂ s₁ s₂) {a:Addr} (h:¬ t₁.Avoid a):¬ t₂.Avoid a:=fun q=>h (q.imp F.own.mp fun z=>(F.pv a z).1)
theorem Forget.val {P L:Addr→Prop}{t₁ t₂:Tie}{s₁ s₂:Shared} (F:Forget P L t₁ t₂ s₁ s₂) (a:Addr) (o:Obj) (na:¬ t₁.Avoid a) (ho:s₁.heap.get? a=some o):s₂.heap.get? a=some o∧¬ t₂.Avoid a :=
 ⟨F.keep _ _ (fun q=>na (.inr (F.hP a q))) (fun q=>na (.inr (F.hL a q).1)) ho,F.avoid na⟩
theorem VRel.forget {P L:Addr→Prop}{t₁ t₂:Tie}{s₁ s₂:Shared} (F:Forget P L t₁ t₂ s₁ s₂) (x:V) {v:Value} (r:VRel t₁ s₁.heap x v):VRel t₂ s₂.heap x v:=VRel.map (fun _ _ e=>by rw [F.ρ]; exact e) F.val x r
theorem VRels.forget {P L:Addr→Prop}{t₁ t₂:Tie}{s₁ s₂:Shared} (F:Forget P L t₁ t₂ s₁ s₂) (l:List V) {vs:List Value} (r:VRels t₁ s₁.heap l vs):VRels t₂ s₂.heap l vs:=VRels.map (fun _ _ e=>by rw [F.ρ]; exact e) F.val l r
theorem Rel.forget {P L:Addr→Prop}{t₁ t₂:Tie}{s₁ s₂:Shared} (F:Forget P L t₁ t₂ s₁ s₂) (R:Rel G t₁ st s₁):Rel G t₂ st s₂:=by
 have nP:∀ {a},t₁.Own a→¬ P a:=fun {a} o q=>R.pv a (F.hP a q) o
 have nL:∀ {a},t₁.Own a→¬ L a:=fun {a} o q=>R.pv a (F.hL a q).1 o
 have up:∀ {a},t₂.Avoid a→t₁.Avoid a∧¬ P a:=fun {a} q=>q.elim (fun q=>⟨.inl (F.own.mp q),nP (F.own.mp q)⟩) fun q=>⟨.inr (F.pv a q).1,(F.pv a q).2⟩
 refine ⟨fun b o e=>F.keep b o (fun q=>?_) (fun q=>?_) (R.base b o e),fun a q=>R.apart a (up q).1,fun a q=>?_,fun a q o=>R.pv a (F.pv a q).1 (F.own.mp o),?_,?_,?_,?_,?_,?_,F.wr.trans R.wr⟩
 ·rw [R.apart b (.inr (F.hP b q))] at e; exact no_none e
 ·rw [R.apart b (.inr (F.hL b q).1)] at e; exact no_none e
 ·by_cases ql:L a
  ·exact (F.hL a ql).2
  ·obtain ⟨o,e⟩:=Option.isSome_iff_exists.mp (R.live a (up q).1)
   rw [F.keep a o (up q).2 ql e]; rfl
 ·rw [F.ρ]; exact R.injρ
 ·rw [F.δ]; exact R.injδ
 ·rw [F.ρ,F.δ]; exact R.two
 ·intro l o e
  exact ObjOk.map (fun _ _ e=>by rw [F.ρ]; exact e) (fun _ _ e=>by rw [F.δ]; exact e) F.val (fun a ob q e=>F.keep a ob (nP ⟨l,q⟩) (nL ⟨l,q⟩) e) (R.objs l o e)
 ·rw [F.ρ,F.δ]; exact R.cnt
 ·rw [F.ρ]; exact R.sys
theorem Step.unhideS {P X L:Addr→Prop}{t₁:Tie}{s₀ s₁ s₂:Shared}{l:List Env} (hl:∀ e,e∈l→e∈t.st∨∀ a,e.frame=some a→P a) (hl':∀ e,e∈t.st→e∈l) (hX:∀ a,X a→P a∨L a) (np:∀ a,P a→s.heap.get? a=none) (hk:∀ b o,s.heap.get? b=some o→s₀.heap.get? b=some o) (hg:s₀.gens=s.gens) (ho:s₀.os=s.os)
  (S:Step X (t.hideS P l) t₁ s₀ s₁) (F:Forget P L t₁ { t₁ with pv:=t.pv,st:=t.st } s₁ s₂):Step L t { t₁ with pv:=t.pv,st:=t.st } s s₂ where
 le:=⟨S.le.ρ,S.le.δ,rfl,S.le.wr,rfl⟩
 slots a o e n nl f:=by
  have nP:¬ P a:=fun q=>by rw [np a q] at e; exact no_none e
  obtain ⟨sl,e1⟩:=S.slots a o (hk a o e) n (fun q=>(hX a q).elim nP nl) ⟨.inl f.1,let ⟨e,h1,h2⟩:=f.2; ⟨e,hl' e h1,h2⟩⟩
  exact ⟨sl,F.keep a _ nP nl e1⟩
 keepW a o e n nl nf:=by
  have nP:¬ P a:=fun q=>by rw [np a q] at e; exact no_none e
  exact F.keep a o nP nl (S.keepW a o (hk a o e) n (fun q=>(hX a q).elim nP nl) fun q=>let ⟨e,h1,h2⟩:=q.2; nf ⟨q.1.elim id fun q=>(nP q).elim,e,(hl e h1).resolve_right fun z=>nP (z a h2),h2⟩)
 new a o:=by
  rcases S.new a o with q | q
  ·exact .inl q
  ·right
   cases z:s.heap.get? a with
   | none=>rfl
   | some ob=>rw [hk a ob z] at q; cases q
 live a o e:=by
  have nP:¬ P a:=fun q=>by rw [np a q] at e; exact no_none e
  by_cases ql:L a
  ·exact (F.hL a ql).2
  ·obtain ⟨o',e'⟩:=Option.isSome_iff_exists.mp (S.live a o (hk a o e))
   rw [F.keep a o' nP ql e']; rfl
 gens:=F.gens.trans (S.gens.trans hg)
 os:=F.os.trans (S.os.trans ho)
theorem Step.unhide {P X L:Addr→Prop}{t₁:Tie}{s₀ s₁ s₂:Shared} (hX:∀ a,X a→P a∨L a) (np:∀ a,P a→s.heap.get? a=none) (hk:∀ b o,s.heap.get? b=some o→s₀.heap.get? b=some o) (hg:s₀.gens=s.gens) (ho:s₀.os=s.os)
  (S:Step X (t.hide P) t₁ s₀ s₁) (F:Forget P L t₁ { t₁ with pv:=t.pv,st:=t.st } s₁ s₂):Step L t { t₁ with pv:=t.pv,st:=t.st } s s₂ :=
 Step.unhideS (l:=t.st) (fun _ h=>.inl h) (fun _ h=>h) hX np hk hg ho S F
theorem Step.priv {a:Addr}{h':Heap}{tk:Nat}{X:Addr→Prop} (hX:X a) (hl:(h'.get? a).isSome=true) (hs:Heap.SameBut a s.heap h'):Step X t t s { s with heap:=h',toks:=tk } :=
 ⟨.refl t,fun b o e _ nx _=>(hs.2 b fun (q:b=a)=>nx (q ▸ hX)).trans e,fun b o e _ nx _=>⟨o.slots,(hs.2 b fun (q:b=a)=>nx (q ▸ hX)).trans e⟩,fun _ o=>.inl o,fun b o e=>by
  by_cases q:b=a
  ·subst q; exact hl
  ·show (h'.get? b).isSome=true; rw [hs.2 b q,e]; rfl,rfl,rfl⟩
theorem Rel.priv (R:Rel G t st s) {a:Addr}{h':Heap}{tk:Nat} (hp:t.pv a) (hl:(h'.get? a).isSome=true) (hs:Heap.SameBut a s.heap h'):Rel G t st { s with heap:=h',toks:=tk }:=by
 have S:Step (·=a) t t s { s with heap:=h',toks:=tk }:=Step.priv rfl hl hs
 have hp':∀ b,b=a→t.pv b:=fun b z=>by rw [z]; exact hp
 refine ⟨fun b o e=>(hs.2 b fun (q:b=a)=>?_).trans (R.base b o e),R.apart,fun b q=>?_,R.pv,R.injρ,R.injδ,R.two,fun l o e=>(R.objs l o e).step S hp' fun b ob hb eb=>(hs.2 b fun (q:b=a)=>?_).trans eb,R.cnt,R.sys,R.wr⟩
 ·rw [q,R.apart a (.inr hp)] at e; exact no_none e
 ·by_cases z:b=a
  ·subst z; exact hl
  ·show (h'.get? b).isSome=true; rw [hs.2 b z]; exact R.live b q
 ·subst q; exact R.pv b hp ⟨l,hb⟩
noncomputable def Tie.adopt (t:Tie) (l:Lbl) (D:Addr) (pv':Addr→Prop):Tie:=⟨fun x=>if x=l then some D else t.ρ x,fun x=>if x=l then none else t.δ x,pv',t.wr,t.st⟩
theorem Rel.adopt (R:Rel G t st s) {D:Addr}{k:Nat}{o:MObj}{pv':Addr→Prop} (pD:t.pv D) (hpv:∀ a,t.pv a ↔ pv' a∨a=D) (nD:¬ pv' D) (hsys:D≠sysModules)
  (hO:(∀ (X:V) (v:Value),VRel t s.heap X v→VRel (t.adopt (k,st.cnt k) D pv') s.heap X v)→ObjOk G (t.adopt (k,st.cnt k) D pv') s.heap (k,st.cnt k) o) :
  Rel G (t.adopt (k,st.cnt k) D pv') (st.new k o) s∧(∀ l a,t.ρ l=some a→(t.adopt (k,st.cnt k) D pv').ρ l=some a) ∧
   (∀ a o,¬ t.Avoid a→s.heap.get? a=some o→s.heap.get? a=some o∧¬ Tie.Avoid (t.adopt (k,st.cnt k) D pv') a):=by
 obtain ⟨c1,c2,c3⟩:=R.cnt k _ (Nat.le_refl _)
 have hρ:∀ l a,t.ρ l=some a→(t.adopt (k,st.cnt k) D pv').ρ l=some a:=fun l a e=>by
  show (if l=(k,st.cnt k) then some D else t.ρ l)=some a
  rw [if_neg (fun q=>by rw [q,c1] at e; exact no_none e)]; exact e
 have hδ:∀ l a,t.δ l=some a→(t.adopt (k,st.cnt k) D pv').δ l=some a:=fun l a e=>by
  show (if l=(k,st.cnt k) then none else t.δ l)=some a
  rw [if_neg (fun q=>by rw [q,c2] at e; exact no_none e)]; exact e
 have nr:∀ {l:Lbl}{b:Addr},(t.adopt (k,st.cnt k) D pv').ρ l=some b→(l=(k,st.cnt k)∧b=D)∨(l≠(k,st.cnt k)∧t.ρ l=some b):=fun {l b} e=>by
  change (if l=(k,st.cnt k) then some D else t.ρ l)=some b at e
  split at e
  ·rename_i q; cases e; exact .inl ⟨q,rfl⟩
  ·rename_i q; exact .inr ⟨q,e⟩
 have nd:∀ {l:Lbl}{b:Addr},(t.adopt (k,st.cnt k) D pv').δ l=some b→t.δ l=some b:=fun {l b} e=>by
  change (if l=(k,st.cnt k) then none else t.δ l)=some b at e
  split at e
  ·exact no_none e
  ·exact e
 have nO:=R.pv D pD
 have up:∀ a,Tie.Avoid (t.adopt (k,st.cnt k) D pv') a→t.Avoid a:=by
  rintro a (⟨l,e | e⟩ | e)
  ·rcases nr e with ⟨_,rfl⟩ | ⟨_,e⟩
   ·exact .inr pD
   ·exact .inl ⟨l,.inl e⟩
  ·exact .inl ⟨l,.inr (nd e)⟩
  ·exact .inr ((hpv a).2 (.inl e))
 have kp:∀ a o,¬ t.Avoid a→s.heap.get? a=some o→s.heap.get? a=some o∧¬ Tie.Avoid (t.adopt (k,st.cnt k) D pv') a:=fun a o na e=>⟨e,fun q=>na (up a q)⟩
 refine ⟨⟨R.base,fun a q=>R.apart a (up a q),fun a q=>R.live a (up a q),?_,?_,?_,?_,?_,?_,fun l e=>?_,R.wr⟩,hρ,kp⟩
 ·rintro a q ⟨l,e | e⟩
  ·rcases nr e with ⟨_,rfl⟩ | ⟨_,e⟩
   ·exact nD q
   ·exact R.pv a ((hpv a).2 (.inl q)) ⟨l,.inl e⟩
  ·exact R.pv a ((hpv a).2 (.inl q)) ⟨l,.inr (nd e)⟩
 ·intro l l' b e e'
  rcases nr e with ⟨q1,z1⟩ | ⟨_,e1⟩ <;> rcases nr e' with ⟨q,z⟩ | ⟨_,e2⟩
  ·exact q1.trans q.symm
  ·exact (nO ⟨l',.inl (z1 ▸ e2)⟩).elim
  ·exact (nO ⟨l,.inl (z ▸ e1)⟩).elim
  ·exact R.injρ l l' b e1 e2
 ·exact fun l l' b e e'=>R.injδ l l' b (nd e) (nd e')
 ·intro l l' b e e'
  rcases nr e with ⟨_,z⟩ | ⟨_,e⟩
  ·exact nO ⟨l',.inr (z ▸ nd e')⟩
  ·exact R.two l l' b e (nd e')
 ·intro l o' e
  change (if l=(k,st.cnt k) then some o else st.heap l)=some o' at e
  split at e
  ·rename_i q; cases e; subst q
   exact hO fun X v r=>VRel.map hρ kp X r
  ·exact ObjOk.map (t:=t) (t':=t.adopt (k,st.cnt k) D pv') hρ hδ kp (fun _ _ _ e=>e) (R.objs l o' e)
 ·intro k' i e
  change (if k'=k then st.cnt k + 1 else st.cnt k')≤i at e
  have ne:(k',i)≠(k,st.cnt k):=fun q=>by cases q; rw [if_pos rfl] at e; lia
  have le:st.cnt k'≤i:=by
   by_cases q:k'=k
   ·subst q; rw [if_pos rfl] at e; lia
   ·rw [if_neg q] at e; exact e
  obtain ⟨d1,d2,d3⟩:=R.cnt k' i le
  exact ⟨(if_neg ne).trans d1,(if_neg ne).trans d2,(if_neg ne).trans d3⟩
 ·rcases nr e with ⟨_,z⟩ | ⟨_,z⟩
  ·exact hsys z.symm
  ·exact R.sys l z
theorem Step.own {X:Addr→Prop}{t':Tie}{s':Shared} (S:Step X t t' s s') {D:Addr}{l:Lbl} (hD:s.heap.get? D=none) (hl:t'.ρ l=none) (hl2:t'.δ l=none):Step X t (t'.adopt l D t'.pv) s s' where
 le:=⟨fun x a e=>by
   have e:=S.le.ρ x a e
   show (if x=l then some D else t'.ρ x)=some a
   rw [if_neg (fun q=>by rw [q,hl] at e; exact no_none e)]; exact e,fun x a e=>by
   have e:=S.le.δ x a e
   show (if x=l then none else t'.δ x)=some a
   rw [if_neg (fun q=>by rw [q,hl2] at e; exact no_none e)]; exact e,S.le.pv,S.le.wr,S.le.st⟩
 keepW:=S.keepW
 slots:=S.slots
 new a:=by
  rintro ⟨x,e | e⟩
  ·change (if x=l then some D else t'.ρ x)=some a at e
   split at e
   ·cases e; exact .inr hD
   ·exact S.new a ⟨x,.inl e⟩
  ·change (if x=l then none else t'.δ x)=some a at e
   split at e
   ·exact no_none e
   ·exact S.new a ⟨x,.inr e⟩
 live:=S.live
 gens:=S.gens
 os:=S.os
end
end Mine
end
section
set_option maxRecDepth 100000
namespace Mine
open PySem PySem.W PyProof.Rows
section
variable {G:Gd}{N:Names}{C:Calls}{d:Dp}{sc:Sc}{Γ:Gam}{A:Around}{t:Tie}{st st':MS}{s:Shared}{env:Env}{loc:Loc}{X Y Z:V}{v w:Value}
noncomputable def ItQ (st₀:MS) (t:Tie) (s:Shared) (I:Addr) (src:V) (i:Nat):Prop :=
 ∃ (k:Bool) (l:List V) (a:Addr),seqOf st₀ src=some (k,l)∧VRel t s.heap src (.ref a)∧(if k=true then s.heap.IsListIter I a i else s.heap.IsTupleIter I a i)
noncomputable def ItD (G:Gd) (st₀:MS) (t:Tie) (s:Shared) (I:Addr) (src:V) (i:Nat):Prop :=
 ∃ (r:Lbl) (dd:List (V×V)) (a:Addr) (kvs:List (PySem.Str×Value)) (ep:Nat),src=.ref r∧dictAt src st₀=some (r,dd)∧t.ρ r=some a∧(∀ j:Nat,∀ x,(dd.map (·.1))[j]?=some x→∃ y v,x=.str y∧kvs[j]?=some (toStr y,v))∧kvs.length=dd.length∧a≠I∧st₀.wr≤t.wr∧s.heap.IsKeyIter I a i kvs.length ep ∧
  (t.wr=st₀.wr→s.heap.DictAt (strKind G.prog G.w) a kvs ep)
noncomputable def ItS (s:Shared) (I:Addr) (src:V) (i:Nat):Prop :=
 ∃ (x:List Nat) (tk:Tok),src=.str x∧s.heap.IsStrIter I "str_ascii_iterator" (toStr x) tk i
noncomputable def ItOk (G:Gd) (st₀:MS) (t:Tie) (s:Shared) (I:Addr) (range:Bool) (src:V) (i:Nat):Prop :=
 match range with
 | true=>∃ n:Int,src=.int n∧IsRangeIter s.heap I i ((n.toNat:Int) - i) 1
 | false=>ItQ st₀ t s I src i∨ItD G st₀ t s I src i∨ItS s I src i
noncomputable abbrev Stays1 (I:Addr) (s s':Shared):Prop:=∀ o,s.heap.get? I=some o→s'.heap.get? I=some o
theorem ItQ.step {st₀:MS}{I:Addr}{src:V}{i:Nat}{X:Addr→Prop}{t':Tie}{s':Shared} (h:ItQ st₀ t s I src i) (S:Step X t t' s s') (xp:∀ a,X a→t.pv a) (hk:Stays1 I s s'):ItQ st₀ t' s' I src i:=by
 obtain ⟨k,l,a,e,r,h⟩:=h
 refine ⟨k,l,a,e,VRel.step S xp _ r,?_⟩
 cases k with
 | true=>exact Exists.elim (show s.heap.IsListIter I a i from h) fun o h=>(⟨o,hk o h.1,h.2⟩:s'.heap.IsListIter I a i)
 | false=>exact Exists.elim (show s.heap.IsTupleIter I a i from h) fun o h=>(⟨o,hk o h.1,h.2⟩:s'.heap.IsTupleIter I a i)
theorem wr_eq {a b c:Nat} (h1:a≤b) (h2:b≤c) (q:c=a):c=b∧b=a:=by subst q; exact ⟨Nat.le_antisymm h1 h2,Nat.le_antisymm h2 h1⟩
theorem ItD.step {st₀:MS}{I:Addr}{src:V}{i:Nat}{X:Addr→Prop}{t':Tie}{s':Shared} (h:ItD G st₀ t s I src i) (S:Step X t t' s s') (xp:∀ a,X a→t.pv a) (hp:∀ a,t.pv a→¬ t.Own a) (hk:Stays1 I s s'):ItD G st₀ t' s' I src i:=by
 obtain ⟨r,dd,a,kvs,ep,e1,e2,ea,e3,e4,e5,e6,⟨o,h1,h2⟩,e8⟩:=h
 refine ⟨r,dd,a,kvs,ep,e1,e2,S.le.ρ _ _ ea,e3,e4,e5,Nat.le_trans e6 S.le.wr,⟨o,hk o h1,h2⟩,fun q=>?_⟩
 have hw:=wr_eq e6 S.le.wr q
 obtain ⟨od,es,q1,q2⟩:=e8 hw.2
 exact ⟨od,es,S.keepW _ _ q1 (fun _=>hw.1) (fun hx=>hp a (xp a hx) ⟨r,.inl ea⟩) (fun f=>hp a f.1 ⟨r,.inl ea⟩),q2⟩
theorem ItS.step {I:Addr}{src:V}{i:Nat}{s':Shared} (h:ItS s I src i) (hk:Stays1 I s s'):ItS s' I src i:=by
 obtain ⟨x,tk,e1,o,h1,h2⟩:=h
 exact ⟨x,tk,e1,o,hk o h1,h2⟩
theorem ItOk.step {st₀:MS}{I:Addr}{range:Bool}{src:V}{i:Nat}{X:Addr→Prop}{t':Tie}{s':Shared} (h:ItOk G st₀ t s I range src i) (S:Step X t t' s s') (xp:∀ a,X a→t.pv a) (hp:∀ a,t.pv a→¬ t.Own a) (pI:t.pv I) (hX:¬ X I) (nF:¬ t.Fr I):ItOk G st₀ t' s' I range src i:=by
 have hk:Stays1 I s s':=fun o h=>S.keep _ _ h (hp I pI) hX nF
 cases range with
 | true =>
  obtain ⟨n,e,h⟩:=h
  exact ⟨n,e,hk _ h⟩
 | false=>exact h.imp (fun h=>h.step S xp hk) fun h=>h.imp (fun h=>h.step S xp hp hk) fun h=>h.step hk
theorem seqOf_stays {st₀ st:MS}{src:V} (h:stays st₀ st false src=true):seqOf st src=seqOf st₀ src:=by
 cases src with
 | ref r =>
  have h:st₀.heap r=st.heap r:=of_decide_eq_true (Bool.and_eq_true_iff.1 h).1
  show (match st.heap r with | some (.list l)=>some (true,l) | _=>none)=(match st₀.heap r with | some (.list l)=>some (true,l) | _=>none)
  rw [h]
 | _=>rfl
theorem dictAt_seq {st:MS}{src:V}{p:Bool×List V} (h:seqOf st src=some p):dictAt src st=none:=by
 cases src with
 | ref r =>
  show (match st.heap r with | some (.dict l)=>some (r,l) | _=>none)=none
  have h:(match st.heap r with | some (.list l)=>some (true,l) | _=>none)=some p:=h
  cases e:st.heap r with
  | none=>rfl
  | some o=>rw [e] at h; cases o <;> first | rfl | exact no_none h
 | _=>rfl
theorem DRel.keyAt {h:Heap}:∀ {dd:List (V×V)}{kvs:List (PySem.Str×Value)},DRel t h dd kvs→∀ (j:Nat) (x:V),(dd.map (·.1))[j]?=some x→∃ y v,x=.str y∧kvs[j]?=some (toStr y,v)
 | [],_,_,j,x,e=>by exact no_none e
 | (k,u) :: r,_,⟨z,y,rest,e1,e2,_,_⟩,0,x,e=>by subst e1 e2; cases e; exact ⟨z,y,rfl,rfl⟩
 | (k,u) :: r,_,⟨z,y,rest,e1,e2,_,e4⟩,j + 1,x,e=>by subst e2; exact DRel.keyAt e4 j x e
theorem items_seq {st:MS}{src:V}{p:Bool×List V} (h:seqOf st src=some p):itemsOf st false src=some p.2:=by
 cases src with
 | str=>exact no_none h
 | ref r =>
  show (match dictAt (.ref r) st with | some p=>some (p.2.map fun q:V×V=>q.1) | none=>(seqOf st (.ref r)).map fun q:Bool×List V=>q.2)=_
  rw [dictAt_seq h,h]; rfl
 | _=>cases h <;> rfl
theorem items_dct {st:MS}{r:Lbl}{p:Lbl×List (V×V)} (h:dictAt (.ref r) st=some p):itemsOf st false (.ref r)=some (p.2.map (·.1)):=by
 show (match dictAt (.ref r) st with | some p=>some (p.2.map fun q:V×V=>q.1) | none=>(seqOf st (.ref r)).map fun q:Bool×List V=>q.2)=_
 rw [h]
theorem stays_wr {st₀ st:MS}{r:Lbl}{p:Lbl×List (V×V)} (h:stays st₀ st false (.ref r)=true) (hd:dictAt (.ref r) st₀=some p):st₀.wr=st.wr:=by
 have h:((dictAt (.ref r) st₀).isNone || decide (st₀.wr=st.wr))=true:=(Bool.and_eq_true_iff.1 h).2
 rw [hd] at h
 exact of_decide_eq_true h
theorem items_str {st:MS}{x:List Nat}{xs:List V} (h:itemsOf st false (.str x)=some xs):xs=x.map fun c=>V.str [c]:=by
 have h:(if x.all (fun c=>decide (c < 128))=true then some (x.map fun c=>V.str [c]) else none)=some xs:=h
 split at h <;> cases h; rfl
theorem items_asc {st:MS}{x:List Nat}{xs:List V} (h:itemsOf st false (.str x)=some xs):(toStr x).cps.all (· < 128)=true:=by
 have h:(if x.all (fun c=>decide (c < 128))=true then some (x.map fun c=>V.str [c]) else none)=some xs:=h
 split at h
 ·rename_i hh; rw [← hh]; simp [toStr]
 ·exact no_none h
theorem next_seq {st₀:MS}{I:Addr}{src:V}{i:Nat}{xs:List V}{x:V}{Q:Option Value→Shared→Prop}{E:Value→Shared→Prop} (R:Rel G t st s) (hI:t.pv I) (hx:itemsOf st₀ false src=some xs) (hs:stays st₀ st false src=true) (h:ItQ st₀ t s I src i) (hi:xs[i]?=some x)
  (q:∀ v h' tk,Step (·=I) t t s { s with heap:=h',toks:=tk }→Rel G t st { s with heap:=h',toks:=tk }→VRel t h' x v→ItOk G st₀ t { s with heap:=h',toks:=tk } I false src (i + 1)→Q (some v) { s with heap:=h',toks:=tk }) :
  wpAny G.M A (pyNext (.ref I)) Q E s:=by
 obtain ⟨k,l,a,e,r,h⟩:=h
 rw [items_seq e] at hx
 have hx:l=xs:=Option.some.inj hx
 subst hx
 have e':seqOf st src=some (k,l):=by rw [seqOf_stays hs,e]
 obtain ⟨a',vs,ea,io,rr,sz⟩:=seqOf_real R r e'
 cases ea
 obtain ⟨y,y1,y2⟩:=VRels.get rr hi
 rw [Array.getElem?_toList] at y1
 have xp:∀ b,b=I→t.pv b:=fun b z=>by rw [z]; exact hI
 cases k with
 | true =>
  have h:s.heap.IsListIter I a i:=h
  have io:PL s.heap a vs:=io
  refine wpAny_pyNext_list_item h io.isList y1 fun h' hit hs'=>?_
  have hl:(h'.get? I).isSome=true:=by obtain ⟨o,ho,_⟩:=hit; rw [ho]; rfl
  have S:Step (·=I) t t s { s with heap:=h',toks:=s.toks }:=Step.priv rfl hl hs'
  exact q _ h' s.toks S (R.priv hI hl hs') (VRel.step S xp _ y2) (.inl ⟨true,l,a,e,VRel.step S xp _ r,hit⟩)
 | false =>
  have h:s.heap.IsTupleIter I a i:=h
  have io:PT s.heap a vs:=io
  refine wpAny_pyNext_tuple_item h io.isTuple y1 fun h' hit hs'=>?_
  have hl:(h'.get? I).isSome=true:=by obtain ⟨o,ho,_⟩:=hit; rw [ho]; rfl
  have S:Step (·=I) t t s { s with heap:=h',toks:=s.toks }:=Step.priv rfl hl hs'
  exact q _ h' s.toks S (R.priv hI hl hs') (VRel.step S xp _ y2) (.inl ⟨false,l,a,e,VRel.step S xp _ r,hit⟩)
theorem next_dict {st₀:MS}{I:Addr}{src:V}{i:Nat}{xs:List V}{x:V}{Q:Option Value→Shared→Prop}{E:Value→Shared→Prop} (R:Rel G t st s) (hI:t.pv I) (hx:itemsOf st₀ false src=some xs) (hs:stays st₀ st false src=true) (h:ItD G st₀ t s I src i) (hi:xs[i]?=some x)
  (q:∀ v h' tk,Step (·=I) t t s { s with heap:=h',toks:=tk }→Rel G t st { s with heap:=h',toks:=tk }→VRel t h' x v→ItOk G st₀ t { s with heap:=h',toks:=tk } I false src (i + 1)→Q (some v) { s with heap:=h',toks:=tk }) :
  wpAny G.M A (pyNext (.ref I)) Q E s:=by
 obtain ⟨r,dd,a,kvs,ep,rfl,e2,ea,e3,e4,e5,e6,e7,e8⟩:=h
 have hw:t.wr=st₀.wr:=R.wr.trans (stays_wr hs e2).symm
 rw [items_dct e2] at hx
 cases hx
 obtain ⟨y,v,rfl,hy⟩:=e3 i x hi
 have hd:=e8 hw
 refine wpAny_pyNext_dict_item e7 hd hy fun key h' hk hit hs'=>?_
 have hl:(h'.get? I).isSome=true:=by obtain ⟨o,ho,_⟩:=hit; rw [ho]; rfl
 have S:Step (·=I) t t s { s with heap:=h',toks:=s.toks }:=Step.priv rfl hl hs'
 obtain ⟨tk,rfl⟩:=Value.isStrOf_shape hk
 refine q _ h' s.toks S (R.priv hI hl hs') ⟨tk,rfl⟩ (.inr (.inl ⟨r,dd,a,kvs,ep,rfl,e2,ea,e3,e4,e5,e6,hit,fun _=>?_⟩))
 obtain ⟨od,es,q1,q2⟩:=hd
 exact ⟨od,es,(hs'.2 a e5).trans q1,q2⟩
theorem next_str {st₀:MS}{I:Addr}{src:V}{i:Nat}{xs:List V}{x:V}{Q:Option Value→Shared→Prop}{E:Value→Shared→Prop} (R:Rel G t st s) (hI:t.pv I) (hx:itemsOf st₀ false src=some xs) (h:ItS s I src i) (hi:xs[i]?=some x)
  (q:∀ v h' tk,Step (·=I) t t s { s with heap:=h',toks:=tk }→Rel G t st { s with heap:=h',toks:=tk }→VRel t h' x v→ItOk G st₀ t { s with heap:=h',toks:=tk } I false src (i + 1)→Q (some v) { s with heap:=h',toks:=tk }) :
  wpAny G.M A (pyNext (.ref I)) Q E s:=by
 obtain ⟨y,tk,rfl,h⟩:=h
 rw [items_str hx,List.getElem?_map] at hi
 obtain ⟨c,hc,rfl⟩:=Option.map_eq_some_iff.1 hi
 refine wpAny_pyNext_ascii_item h (by rw [← hc]; exact List.getElem?_toArray) fun h' hit hs'=>?_
 have hl:(h'.get? I).isSome=true:=by obtain ⟨o,ho,_⟩:=hit; rw [ho]; rfl
 exact q _ h' _ (Step.priv rfl hl hs') (R.priv hI hl hs') ⟨_,rfl⟩ (.inr (.inr ⟨y,tk,rfl,hit⟩))
theorem it_next {st₀:MS}{I:Addr}{range:Bool}{src:V}{i:Nat}{xs:List V}{x:V}{Q:Option Value→Shared→Prop}{E:Value→Shared→Prop} (R:Rel G t st s) (hI:t.pv I) (hx:itemsOf st₀ range src=some xs) (hs:stays st₀ st range src=true) (h:ItOk G st₀ t s I range src i) (hi:xs[i]?=some x)
  (q:∀ v h' tk,Step (·=I) t t s { s with heap:=h',toks:=tk }→Rel G t st { s with heap:=h',toks:=tk }→VRel t h' x v→ItOk G st₀ t { s with heap:=h',toks:=tk } I range src (i + 1)→Q (some v) { s with heap:=h',toks:=tk }) :
  wpAny G.M A (pyNext (.ref I)) Q E s:=by
 cases range with
 | true =>
  obtain ⟨n,rfl,h⟩:=h
  simp only [itemsOf] at hx
  split at hx
  ·cases hx
   have hlt:i < n.toNat:=by
    rw [List.getElem?_map] at hi
    obtain ⟨j,hj,_⟩:=Option.map_eq_some_iff.mp hi
    rw [List.getElem?_eq_some_iff] at hj
    simpa using hj.1
   have hxi:x=.int (i:Int):=by
    rw [List.getElem?_map,List.getElem?_range hlt] at hi
    cases hi; rfl
   subst hxi
   refine wpAny_pyNext_range_item h (by lia) fun h' hit hs'=>?_
   have hl:(h'.get? I).isSome=true:=by rw [hit]; rfl
   refine q _ h' _ (Step.priv rfl hl hs') (R.priv hI hl hs') ⟨_,rfl⟩ ⟨n,rfl,?_⟩
   have e1:((i:Int) + 1)=((i + 1:Nat):Int):=by lia
   have e2:((n.toNat:Int) - i - 1)=((n.toNat:Int) - ((i + 1:Nat):Int)):=by lia
   rw [← e2,← e1]; exact hit
  ·exact no_none hx
 | false =>
  rcases h with h | h | h
  ·exact next_seq R hI hx hs h hi q
  ·exact next_dict R hI hx hs h hi q
  ·exact next_str R hI hx h hi q
theorem it_end {st₀:MS}{I:Addr}{range:Bool}{src:V}{xs:List V}{Q:Option Value→Shared→Prop}{E:Value→Shared→Prop} (R:Rel G t st s) (hA:A.handled=none) (hx:itemsOf st₀ range src=some xs) (hs:stays st₀ st range src=true) (h:ItOk G st₀ t s I range src xs.length)
  (q:∀ h' tk,Heap.ExtBut I s.heap h'→Q none { s with heap:=h',toks:=tk }):wpAny G.M A (pyNext (.ref I)) Q E s:=by
 cases range with
 | true =>
  obtain ⟨n,rfl,h⟩:=h
  simp only [itemsOf] at hx
  split at hx
  ·cases hx
   rw [List.length_map,List.length_range] at h
   exact wpAny_pyNext_range_end hA h (by lia) fun h'=>q h' s.toks
  ·exact no_none hx
 | false =>
  rcases h with ⟨k,l,a,e,r,h⟩ | ⟨r,dd,a,kvs,ep,rfl,e2,ea,e3,e4,e5,e6,e7,e8⟩ | ⟨x,tk,rfl,h⟩
  ·rw [items_seq e] at hx
   have hx:l=xs:=Option.some.inj hx
   subst hx
   have e':seqOf st src=some (k,l):=by rw [seqOf_stays hs,e]
   obtain ⟨a',vs,ea,io,rr,sz⟩:=seqOf_real R r e'
   cases ea
   have hn:vs[l.length]?=none:=by rw [Array.getElem?_eq_none]; rw [size_of rr]; exact Nat.le_refl _
   cases k with
   | true=>exact wpAny_pyNext_list_end hA (h:s.heap.IsListIter I a _) (show PL s.heap a vs from io).isList hn fun h'=>q h' s.toks
   | false=>exact wpAny_pyNext_tuple_end hA (h:s.heap.IsTupleIter I a _) (show PT s.heap a vs from io).isTuple hn fun h'=>q h' s.toks
  ·have hw:t.wr=st₀.wr:=R.wr.trans (stays_wr hs e2).symm
   rw [items_dct e2] at hx
   cases hx
   exact wpAny_pyNext_dict_end hA e7 (e8 hw) (by rw [List.length_map,← e4]; exact List.getElem?_eq_none (Nat.le_refl _)) fun h'=>q h' s.toks
  ·exact wpAny_pyNext_ascii_end hA h (by rw [items_str hx,List.length_map]; exact Array.getElem?_eq_none (by simp [toStr])) fun h'=>q h' s.toks
theorem it_self {st₀:MS}{I:Addr}{range:Bool}{src:V}{i:Nat}{Q:Value→Shared→Prop}{E:Value→Shared→Prop} (R:Rel G t st₀ s) (hA:A.handled=none) (h:ItOk G st₀ t s I range src i) (q:Q (.ref I) s):wpAny G.M A (pyIter (.ref I)) Q E s:=by
 cases range with
 | true =>
  obtain ⟨n,rfl,h⟩:=h
  refine (Walks.range hA I 0 1 n.toNat).self i s Q E ?_ q
  have e1:(0:Int) + (i:Int) * 1=i:=by lia
  rw [e1]; exact h
 | false =>
  rcases h with ⟨k,l,a,e,r,h⟩ | ⟨r,dd,a,kvs,ep,rfl,e2,ea,e3,e4,e5,e6,e7,e8⟩ | ⟨x,tk,rfl,h⟩
  ·obtain ⟨a',vs,ea,io,rr,sz⟩:=seqOf_real R r e
   cases ea
   cases k with
   | true =>
    have h:s.heap.IsListIter I a i:=h
    have io:PL s.heap a vs:=io
    have hne:a≠I:=fun z=>by
     obtain ⟨o,h1,h2,_⟩:=h
     obtain ⟨n,h3⟩:=io
     rw [z,h1] at h3; cases h3; exact absurd (show Value.type "list"=Value.type "list_iterator" from h2) (by decide)
    exact (Walks.list hA I a hne vs).self i s Q E ⟨h,io.isList⟩ q
   | false =>
    have h:s.heap.IsTupleIter I a i:=h
    have io:PT s.heap a vs:=io
    have hne:a≠I:=fun z=>by
     obtain ⟨o,h1,h2,_⟩:=h
     obtain ⟨n,h3⟩:=io
     rw [z,h1] at h3; cases h3; exact absurd (show Value.type "tuple"=Value.type "tuple_iterator" from h2) (by decide)
    exact (Walks.tuple hA I a hne vs).self i s Q E ⟨h,io.isTuple⟩ q
  ·exact wpAny_pyIter_keyiter e7 q
  ·exact wpAny_pyIter_striter_ascii h q
inductive IterAst (sc:Sc):Bool→PySem.Expr→PySem.Expr→Prop
 | plain (j:PySem.Expr):IterAst sc false j j
 | range {rp rpos:Pos}{j:PySem.Expr} (hg:glob sc "range"=true) (hj:isStarred j=false):IterAst sc true (.Call (.Name "range" rp) [j] [] rpos) j
noncomputable def ItK (G:Gd) (t:Tie) (σ:Shared) (st:MS) (range:Bool) (src:V) (K:Value→Shared→Prop):Prop :=
 ∀ σ2 I,(∀ b o,σ.heap.get? b=some o→σ2.heap.get? b=some o)→σ.heap.get? I=none→(σ2.heap.get? I).isSome=true→σ2.gens=σ.gens→σ2.os=σ.os →
   (∀ (t':Tie) (s':Shared),(∀ a,VRel t σ.heap src (.ref a)→VRel t' s'.heap src (.ref a))→t'.wr=t.wr→(∀ b o,σ2.heap.get? b=some o→s'.heap.get? b=some o)→ItOk G st t' s' I range src 0)→K (.ref I) σ2
theorem ItK.push {range:Bool}{src:V}{K:Value→Shared→Prop} (h:ItK G t s st range src K) (o:Obj) (hf:o.isFreed=false)
  (hi:∀ (t':Tie) (s':Shared),(∀ a,VRel t s.heap src (.ref a)→VRel t' s'.heap src (.ref a))→t'.wr=t.wr→(∀ b o,s.heap.get? b=some o→s'.heap.get? b=some o)→s'.heap.get? s.heap.objs.size=some o→ItOk G st t' s' s.heap.objs.size range src 0) :
  K (.ref s.heap.objs.size) { s with heap:=s.heap.push o } :=
 h _ _ (fun b o e=>Heap.get?_push_of_some _ e) (size_none _) (by show (Heap.get? _ _).isSome=true; rw [Heap.get?_push_size _ hf]; rfl) rfl rfl fun t' s' hv hw hs'=>hi t' s' hv hw (fun b o e=>hs' b o (Heap.get?_push_of_some _ e)) (hs' _ _ (Heap.get?_push_size _ hf))
theorem iter_seq {src:V}{k:Bool}{l:List V}{K E':Value→Shared→Prop} (R:Rel G t st s) (r1:VRel t s.heap src v) (hq:seqOf st src=some (k,l)) (h:ItK G t s st false src K):wpAny G.M A (pyIter v) K E' s:=by
 obtain ⟨a,vs,rfl,io,rr,sz⟩:=seqOf_real R r1 hq
 cases k with
 | true=>exact wpAny_pyIter_list (PL.isList (show PL s.heap a vs from io)) (h.push _ rfl fun t' s' hv _ _ ho=>.inl ⟨true,l,a,hq,hv a r1,(⟨_,ho,rfl,rfl⟩:s'.heap.IsListIter _ a 0)⟩)
 | false=>exact wpAny_pyIter_tuple (PT.isTuple (show PT s.heap a vs from io)) (h.push _ rfl fun t' s' hv _ _ ho=>.inl ⟨false,l,a,hq,hv a r1,(⟨_,ho,rfl,rfl⟩:s'.heap.IsTupleIter _ a 0)⟩)
theorem iter_dict {p:Lbl×List (V×V)}{K E':Value→Shared→Prop} (R:Rel G t st s) (r1:VRel t s.heap X v) (hdd:dictAt X st=some p) (h:ItK G t s st false X K):wpAny G.M A (pyIter v) K E' s:=by
 obtain ⟨a,kvs,rfl,h1,h2,h3,h4⟩:=dictAt_real R r1 hdd
 obtain ⟨ep,hd⟩:=h2.dictAt
 cases (dictAt_inv hdd).1
 refine wpAny_pyIter_dict (beq_eq_false_iff_ne.2 fun z=>R.sys p.1 (z ▸ h1)) hd (h.push _ rfl fun t' s' hv hw hk ho=>.inr (.inl ⟨p.1,p.2,a,kvs,ep,rfl,hdd,?_,fun j x hj=>h3.keyAt j x hj,h3.length,Nat.ne_of_lt hd.lt_size,?_,⟨_,ho,rfl,rfl⟩,fun _=>hd.keep hk⟩))
 ·obtain ⟨a',q1,q2⟩:=hv a ⟨a,rfl,h1⟩
  cases q1; exact q2
 ·rw [hw]; exact Nat.le_of_eq R.wr.symm
theorem iter_str {x:List Nat}{xs:List V}{K E':Value→Shared→Prop} (r1:VRel t s.heap (.str x) v) (hx:itemsOf st false (.str x)=some xs) (h:ItK G t s st false (.str x) K):wpAny G.M A (pyIter v) K E' s:=by
 obtain ⟨k,rfl⟩:=r1
 exact wpAny_pyIter_ascii (items_asc hx) (h.push _ rfl fun t' s' hv _ _ ho=>.inr (.inr ⟨x,k,rfl,_,ho,rfl,rfl⟩))
theorem items_dk {r:Lbl}{xs:List V} (hx:itemsOf st false (.ref r)=some xs) (hq:seqOf st (.ref r)=none):∃ p,dictAt (.ref r) st=some p:=by
 cases hdd:dictAt (.ref r) st with
 | none =>
  have hx:(match dictAt (.ref r) st with | some p=>some (p.2.map fun q:V×V=>q.1) | none=>(seqOf st (.ref r)).map fun q:Bool×List V=>q.2)=some xs:=hx
  rw [hdd,hq] at hx; exact no_none hx
 | some p=>exact ⟨p,rfl⟩
theorem iter_any {src:V}{xs:List V}{K E':Value→Shared→Prop} (R:Rel G t st s) (r1:VRel t s.heap src v) (hx:itemsOf st false src=some xs) (h:ItK G t s st false src K):wpAny G.M A (pyIter v) K E' s:=by
 cases hq:seqOf st src with
 | some kl=>exact iter_seq R r1 hq h
 | none =>
  cases src with
  | str x=>exact iter_str r1 hx h
  | ref r=>obtain ⟨p,hdd⟩:=items_dk hx hq; exact iter_dict R r1 hdd h
  | tup=>exact no_none hq.symm
  | lst=>exact no_none hq.symm
  | _=>exact no_none hx
theorem range_items {src:V}{xs:List V} (hx:itemsOf st true src=some xs):∃ n:Int,src=.int n∧-(2 ^ 62:Int)≤n∧n < (2 ^ 62:Int):=by
 cases src with
 | int n =>
  have hx:(if -1000≤n∧n≤sizeMax then some ((List.range n.toNat).map fun (i:Nat)=>V.int i) else none)=some xs:=hx
  by_cases h:-1000≤n∧n≤sizeMax
  ·exact ⟨n,rfl,Int.le_trans (by decide) h.1,Int.lt_of_le_of_lt h.2 (by decide)⟩
  ·rw [if_neg h] at hx; exact no_none hx
 | _=>exact no_none hx
theorem range_size (n:Int):Builtin.Range.rangeSize 0 n 1=(n.toNat:Int) - ((0:Nat):Int):=by rw [rangeSize_one]; split <;> omega
theorem iter_range {n:Int}{k:Tok}{K E':Value→Shared→Prop} (hlo:-(2 ^ 62:Int)≤n) (hhi:n < (2 ^ 62:Int)) (h:ItK G t s st true (.int n) K):wpAny G.M A (call (.type "range") [.int n k]) (fun xv s'=>wpAny G.M A (pyIter xv) K E' s') E' s:=by
 refine call_range_1 (wpAny_pyIter_range (IsRange.new ..) (small_one (by decide) (by decide) hlo hhi) ?_)
 refine h _ _ (fun b o e=>Heap.get?_push_of_some _ (Heap.get?_push_of_some _ e)) (by rw [Heap.size_push]; exact size_none1 _) (by show (Heap.get? _ _).isSome=true; rw [Heap.get?_push_size _ rfl]; rfl) rfl rfl fun t' s' hv _ hs'=>⟨n,rfl,hs' _ _ ?_⟩
 rw [range_size]
 exact Heap.get?_push_size _ rfl
theorem iter_go (O:G.Ok N) {range:Bool}{it:E}{iast j:PySem.Expr} (ha:IterAst sc range iast j) (hj:SimE G C d sc Γ it j) {src:V}{s1:MS}{xs:List V} (hA:AOk d A) (hsc:env.scope.names=sc) (F:FrOk G A t env Γ loc s) (R:Rel G t st s)
  (e1:ev G.P C it loc st=.ok src s1) (hx:itemsOf s1 range src=some xs) {K:Value→Shared→Prop}{E':Value→Shared→Prop}
  (h:∀ t1 σ1,Step noX t t1 s σ1→Rel G t1 s1 σ1→ItK G t1 σ1 s1 range src K) :
  wpAny G.M A (eval iast env) (fun xv s'=>wpAny G.M A (pyIter xv) K E' s') E' s:=by
 cases ha with
 | plain j=>exact hj t st s env loc _ _ A hA hsc F R e1 _ _ fun v t1 σ1 S1 R1 r1=>iter_any R1 r1 hx (h t1 σ1 S1 R1)
 | @range rp rpos j hg hjs =>
  obtain ⟨n,rfl,hlo,hhi⟩:=range_items hx
  have e1':evL G.P C [it] loc st=.ok [.int n] s1:=by rw [evL_cons,e1]; rfl
  refine wpAny_Call_ofName (built_glob (v:=.type "range") O F R hsc hg (by decide) (by decide +kernel) ?_)
  refine with_go O (keeps_t _) (l:=[it]) (m:=[j]) (by show (!isStarred j && true)=true; rw [hjs]; rfl) rfl (sim_es_cons hjs hj sim_es_nil) hA hsc F R e1' fun vs t1 σ1 S1 R1 r1=>?_
  obtain ⟨v,_,rfl,⟨k,rfl⟩,rfl⟩:=r1
  exact iter_range hlo hhi (h t1 σ1 S1 R1)
end
end Mine
end
section
set_option maxRecDepth 100000
namespace Mine
open PySem PySem.W PyProof.Rows
section
variable {G:Gd}{N:Names}{C:Calls}{d:Dp}{sc:Sc}{Γ:Gam}{A:Around}{t:Tie}{st st':MS}{s:Shared}{env:Env}{loc:Loc}{X Y Z:V}{v w:Value}
noncomputable def clo (env:Env):Sc→List (PySem.Str×Addr)→List (PySem.Str×Addr)
 | [],acc=>acc
 | x :: r,acc=>clo env r (if x.2 == .free then (match env.cells.lookup x.1 with | some c=>(x.1,c) :: acc | none=>acc) else acc)
theorem clo_go (env:Env):∀ (names:Sc) (acc:List (PySem.Str×Addr)),(∀ x∈names,x.2=.free→(env.cells.lookup x.1).isSome=true) →
  (forIn names acc fun (x:PySem.Str×NameKind) (cs:List (PySem.Str×Addr))=>(if x.2 == .free then do let c ← cellOf env x.1; pure (ForInStep.yield ((x.1,c) :: cs)) else pure (ForInStep.yield cs):Sem _))=pure (clo env names acc)
 | [],_,_=>rfl
 | x :: r,acc,h=>by
  rw [List.forIn_cons]
  have ih:=fun acc=>clo_go env r acc fun y hy=>h y (.tail _ hy)
  by_cases q:(x.2 == .free)=true
  ·obtain ⟨c,hc⟩:=Option.isSome_iff_exists.mp (h x (.head _) (by simpa using q))
   simp only [q,if_true,cellOf,hc,clo]
   exact ih _
  ·simp only [q,if_false,clo]
   exact ih _
theorem closure_eq {scope:Scope} (h:∀ x∈scope.names,x.2=.free→(env.cells.lookup x.1).isSome=true):closureFor scope env=pure (clo env scope.names []):=by
 have e:=clo_go env scope.names [] h
 exact (congrArg (· >>= fun r=>pure r) e:_)
theorem clo_mem:∀ {names:Sc}{acc:List (PySem.Str×Addr)}{n:PySem.Str}{c:Addr},(n,c)∈clo env names acc→(n,c)∈acc∨((n,.free)∈names∧env.cells.lookup n=some c)
 | [],_,_,_,h=>.inl h
 | x :: r,acc,n,c,h=>by
  simp only [clo] at h
  rcases clo_mem h with h | h
  ·split at h
   ·rename_i q
    split at h
    ·rename_i c' hc
     rcases List.mem_cons.mp h with e | h
     ·cases e
      refine .inr ⟨?_,hc⟩
      have:x.2=.free:=by simpa using q
      rw [← this]; exact .head _
     ·exact .inl h
    ·exact .inl h
   ·exact .inl h
  ·exact .inr ⟨.tail _ h.1,h.2⟩
theorem clo_look:∀ {names:Sc}{acc:List (PySem.Str×Addr)}{n:PySem.Str},(∀ c,(n,c)∈acc→env.cells.lookup n=some c)→(n,.free)∈names∨acc.lookup n=env.cells.lookup n→(clo env names acc).lookup n=env.cells.lookup n
 | [],_,_,_,h=>h.resolve_left (fun z=>by cases z)
 | x :: r,acc,n,ha,h=>by
  simp only [clo]
  have hacc':∀ c,(n,c)∈(if (x.2 == .free)=true then (match env.cells.lookup x.1 with | some c=>(x.1,c) :: acc | none=>acc) else acc)→env.cells.lookup n=some c:=by
   intro c hc
   split at hc
   ·split at hc
    ·rename_i c' hc'
     rcases List.mem_cons.mp hc with e | hc
     ·cases e; exact hc'
     ·exact ha c hc
    ·exact ha c hc
   ·exact ha c hc
  refine clo_look hacc' ?_
  by_cases q:(n,.free)∈r
  ·exact .inl q
  ·right
   by_cases z:x.1=n
   ·by_cases z2:x.2=.free
    ·rw [if_pos (by simpa using z2),z]
     cases hc:env.cells.lookup n with
     | some c=>simp [List.lookup_cons]
     | none =>
      dsimp only
      cases hl:acc.lookup n with
      | none=>rfl
      | some c=>have:=ha c (mem_of_lookup hl); rw [hc] at this; exact no_none this
    ·rw [if_neg (by simpa using z2)]
     refine h.resolve_left fun hm=>?_
     rcases List.mem_cons.mp hm with e | hm
     ·exact z2 (by rw [← e])
     ·exact q hm
   ·have hl:acc.lookup n=env.cells.lookup n:=h.resolve_left fun hm=>by
     rcases List.mem_cons.mp hm with e | hm
     ·exact z (by rw [← e])
     ·exact q hm
    have hb:(n == x.1)=false:=by simpa using fun e=>z e.symm
    split
    ·split
     ·rw [List.lookup_cons,hb]; exact hl
     ·exact hl
    ·exact hl
end
end Mine
end
section
set_option maxRecDepth 100000
namespace Mine
open PySem PySem.W PyProof.Rows
section
variable {G:Gd}{N:Names}{C:Calls}{d:Dp}{sc:Sc}{Γ:Gam}{A:Around}{t:Tie}{st st':MS}{s:Shared}{env:Env}{loc:Loc}{X Y Z:V}{v w:Value}
theorem FrOk.stepX {X:Addr→Prop}{t':Tie}{s':Shared} (F:FrOk G A t env Γ loc s) (R:Rel G t st s) (S:Step X t t' s s') (xp:∀ a,X a→t.pv a) (hl:¬ X env.locals) (hc:∀ n c,env.cells.lookup n=some c→¬ X c) (nf:∀ a,X a→¬ t.Fr a):FrOk G A t' env Γ loc s' where
 sk:=F.sk.step R S fun a x f=>(nf a x f).elim
 fn:=F.fn
 gl:=F.gl
 bl:=F.bl
 pvl:=by rw [S.le.pv]; exact F.pvl
 pvc n c h:=by rw [S.le.pv]; exact F.pvc n c h
 apart:=F.apart
 ex:=by
  obtain ⟨m,cm,⟨o,es,ep,ho,r⟩,hcc,hz,hs⟩:=F.ex
  obtain ⟨sl,ho'⟩:=Step.pvk S R F.pvl hl ho
  refine ⟨m,cm,⟨_,es,ep,ho',r⟩,fun n c e=>?_,hz,fun i x X e1 e2=>?_⟩
  ·obtain ⟨oc,h1,h2⟩:=hcc n c e
   obtain ⟨sl,h1'⟩:=Step.pvk S R (F.pvc n c e) (hc n c e) h1
   exact ⟨_,h1',h2⟩
  ·obtain ⟨v,hv,r⟩:=hs i x X e1 e2
   exact ⟨v,VRel.step S xp X hv,r⟩
theorem FrOk.hideGrow {s':Shared}{P:Addr→Prop} (F:FrOk G A t env Γ loc s) (np:∀ a,P a→s.heap.get? a=none) (hk:∀ b o,s.heap.get? b=some o→s'.heap.get? b=some o) (hg:s'.gens=s.gens) (ho:s'.os=s.os):FrOk G A (t.hide P) env Γ loc s' where
 sk:=⟨F.sk.fr,fun e he=>let ⟨h1,L,o,h2,h3,h4,h5⟩:=F.sk.ob e he; ⟨h1,L,o,h2,.inl h3,hk _ _ h4,h5⟩⟩
 fn:=F.fn
 gl:=F.gl
 bl:=F.bl
 pvl:=.inl F.pvl
 pvc n c h:=.inl (F.pvc n c h)
 apart:=F.apart
 ex:=by
  have S:Step noX (t.hide P) (t.hide P) s s':=⟨.refl _,fun a o e _ _ _=>hk a o e,fun a o e _ _ _=>⟨o.slots,hk a o e⟩,fun _ o=>.inl o,fun a o e=>by rw [hk a o e]; rfl,hg,ho⟩
  obtain ⟨m,cm,hn,hcc,hz,hs⟩:=F.ex
  refine ⟨m,cm,hn.keeps hk,fun n c e=>?_,hz,fun i x X e1 e2=>?_⟩
  ·obtain ⟨oc,h1,h2⟩:=hcc n c e
   exact ⟨oc,hk _ _ h1,h2⟩
  ·obtain ⟨v,hv,r⟩:=hs i x X e1 e2
   exact ⟨v,VRel.step S (fun _ z=>z.elim) X (VRel.hide np X hv),r⟩
theorem compSc_eq {scope:Scope} (hf:env.scope.kind=.function) (hsc:env.scope.names=sc):(relabel scope env).names=compSc sc scope.names:=by
 unfold relabel compSc
 dsimp only
 refine List.map_congr_left fun x hx=>?_
 obtain ⟨n,k⟩:=x
 simp only [hf,Env.kindOf,hsc,BEq.rfl,Bool.and_true]
theorem compSc_cell:∀ {names:Sc}{y:PySem.Str},(∀ z∈names,z.2≠.cell)→(compSc sc names).lookup y=some .cell→(y,.free)∈names∧sc.lookup y=some .cell
 | [],_,_,h=>by exact no_none h
 | x :: r,y,hn,h=>by
  have ih:=@compSc_cell r y (fun z hz=>hn z (.tail _ hz))
  obtain ⟨n,k⟩:=x
  change List.lookup y ((if k == .free && sc.lookup n == some .cell then (n,.cell) else (n,k)) :: compSc sc r)=some .cell at h
  by_cases q:(k == .free && sc.lookup n == some .cell)=true
  ·rw [if_pos q,List.lookup_cons] at h
   simp only [Bool.and_eq_true,beq_iff_eq] at q
   cases z:y == n with
   | true =>
    have e:y=n:=by simpa using z
    subst e
    exact ⟨by rw [← q.1]; exact .head _,q.2⟩
   | false=>rw [z] at h; exact ⟨.tail _ (ih h).1,(ih h).2⟩
  ·rw [if_neg q,List.lookup_cons] at h
   cases z:y == n with
   | true=>rw [z] at h; cases h; exact absurd rfl (hn _ (.head _))
   | false=>rw [z] at h; exact ⟨.tail _ (ih h).1,(ih h).2⟩
set_option genCtorIdx false in
structure CompOk (sc:Sc) (scope:Scope) (slot:Nat) (Γ:Gam) (x:PySem.Str):Prop where
 fn:scope.kind=.function
 slot:slot < Γ.length
 x:scope.names.lookup x=some .local
 cell:∀ y∈scope.names,y.2≠.cell
 loc:∀ y∈scope.names,y.2=.local→scope.names.lookup y.1=some .local
 free:∀ y∈scope.names,y.2=.free→sc.lookup y.1=some .cell
theorem compOk_real {scope:Scope}{slot:Nat}{x:PySem.Str} (h:compOk sc scope slot Γ x=true):CompOk sc scope slot Γ x:=by
 simp only [compOk,Bool.and_eq_true,beq_iff_eq,decide_eq_true_eq,List.all_eq_true] at h
 obtain ⟨⟨⟨h1,h2⟩,h3⟩,h4⟩:=h
 refine ⟨h1,h2,h3,fun y hy z=>?_,fun y hy z=>?_,fun y hy z=>?_⟩
 ·have:=h4 y hy; simp [z] at this
 ·have:=h4 y hy; simpa [z] using this
 ·have:=h4 y hy; simpa [z] using this
theorem FrOk.comp {scope:Scope}{slot:Nat}{x:PySem.Str}{Ca:Addr}{m:PySem.Str→Option Value} (F:FrOk G A t env Γ loc s) (hsc:env.scope.names=sc) (K:CompOk sc scope slot Γ x) (hC:t.pv Ca) (hn:s.heap.Ns Ca m) (hm:m x=some v) (hv:VRel t s.heap X v) :
  FrOk G A t (compEnvC scope (clo env scope.names []) Ca env) (compGam (compSc sc scope.names) Γ slot x) (loc.set slot (some X)) s:=by
 have hsc':=compSc_eq (scope:=scope) F.fn hsc
 obtain ⟨m0,cm,hn0,hcc,hz,hs⟩:=F.ex
 have lk:∀ n c,(clo env scope.names []).lookup n=some c→env.cells.lookup n=some c:=fun n c e=>(clo_mem (mem_of_lookup e)).elim (fun z=>by cases z) fun z=>z.2
 refine ⟨F.sk,K.fn,F.gl,F.bl,hC,fun n c h=>?_,fun n n' c h h'=>F.apart n n' c (lk n c h) (lk n' c h'),m,cm,hn,fun n c e=>hcc n c (lk n c e),fun y hy=>?_,fun i y Y e1 e2=>?_⟩
 ·exact F.pvc n c (lk n c h)
 ·change (relabel scope env).names.lookup y=some .cell at hy
  rw [hsc'] at hy
  obtain ⟨h1,h2⟩:=compSc_cell K.cell hy
  show ((clo env scope.names []).lookup y).isSome=true
  rw [clo_look (fun c z=>by cases z) (.inl h1)]
  exact hz y (by unfold Env.kindOf; rw [hsc]; exact h2)
 ·unfold compGam at e1
  by_cases q:i=slot
  ·subst q
   rw [List.getElem?_set_self (by rw [List.length_map]; exact K.slot)] at e1
   cases e1
   have e2':Y=X:=by
    by_cases hl2:i < loc.length
    ·rw [List.getElem?_set_self hl2] at e2; cases e2; rfl
    ·rw [List.getElem?_eq_none (by rw [List.length_set]; lia)] at e2; exact no_none e2
   subst e2'
   exact ⟨v,hv,.inl ⟨lookup_relabel_local K.x,hm⟩⟩
  ·rw [List.getElem?_set_ne (fun z=>q z.symm),List.getElem?_map] at e1
   rw [List.getElem?_set_ne (fun z=>q z.symm)] at e2
   obtain ⟨o,ho,e3⟩:=Option.map_eq_some_iff.mp e1
   cases o with
   | none=>exact no_none e3
   | some n =>
    dsimp only at e3
    split at e3
    ·rename_i hcell
     obtain rfl:n=y:=by cases e3; rfl
     have hcell:(compSc sc scope.names).lookup n=some .cell:=by simpa using hcell
     obtain ⟨h1,h2⟩:=compSc_cell K.cell hcell
     obtain ⟨u,u1,u2⟩:=hs i n Y ho e2
     have hk:env.kindOf n=some .cell:=by unfold Env.kindOf; rw [hsc]; exact h2
     refine ⟨u,u1,.inr ⟨?_,?_⟩⟩
     ·show (relabel scope env).names.lookup n=some .cell
      rw [hsc']; exact hcell
     ·rcases u2 with ⟨z,_⟩ | ⟨_,z⟩
      ·rw [hk] at z; cases z
      ·exact z
    ·exact no_none e3
end
end Mine
end
section
set_option maxRecDepth 100000
namespace Mine
open PySem PySem.W PyProof.Rows
section
variable {G:Gd}{N:Names}{C:Calls}{d:Dp}{sc:Sc}{Γ:Gam}{A:Around}{t:Tie}{st st':MS}{s:Shared}{env:Env}{loc:Loc}{X Y Z:V}{v w:Value}
inductive CondSim (G:Gd) (C:Calls) (d:Dp) (sc:Sc) (Γ:Gam):Option E→List PySem.Expr→Prop
 | none:CondSim G C d sc Γ none []
 | some {c:E}{ci:PySem.Expr}:SimT G C d sc Γ c ci→CondSim G C d sc Γ (some c) [ci]
noncomputable def condRun (P:Prog) (C:Calls) (cond:Option E) (loc:Loc) (st:MS):Res Bool :=
 match evC P C cond with
 | some c=>(c loc st).bind truth
 | none=>.ok true st
theorem cond_go {cond:Option E}{ifs:List PySem.Expr} (h:CondSim G C d sc Γ cond ifs) (hA:AOk d A) (hsc:env.scope.names=sc) (F:FrOk G A t env Γ loc s) (R:Rel G t st s) {b:Bool} (e:condRun G.P C cond loc st=.ok b st') :
  Sim G A t s (forIn ifs true fun c r=>if r=true then do let ok ← isTrue c env (eval c env); pure (ForInStep.yield ok) else pure (ForInStep.yield r)) st' (fun _ _ b'=>b'=b):=by
 cases h with
 | none =>
  cases e
  exact fun Q E k=>wpAny_pure (k true t s (.refl _ _ _) R rfl)
 | @some c ci h =>
  simp only [condRun,evC] at e
  obtain ⟨v,s1,e1,e⟩:=Res.bind_ok e
  obtain ⟨rfl,rfl⟩:=truth_ok e
  intro Q E k
  rw [List.forIn_cons]
  simp only [if_true]
  refine wpAny_bind (wpAny_bind (h t st s env loc b _ A hA hsc F R e1 _ _ fun b' t1 σ1 S1 R1 r1=>?_))
  exact wpAny_pure (wpAny_pure (k b' t1 σ1 S1 R1 r1))
inductive CEnd (G:Gd) (A:Around) (t:Tie) (σ:Shared) (st':MS) (vs:List V) (env:Env) (Γ:Gam) (loc:Loc) (Ca D:Addr) (se:Shared):Prop
 | mk (P:Addr→Prop) (τ:Tie) (s0 s1:Shared) (ys:Array Value) (m:PySem.Str→Option Value)
  (np:∀ a,P a→σ.heap.get? a=none) (pC:P Ca) (pD:P D) (DC:D≠Ca) (hk:∀ b o,σ.heap.get? b=some o→s0.heap.get? b=some o) (hg:s0.gens=σ.gens) (ho:s0.os=σ.os) (S:Step P (t.hide P) τ s0 s1) (R:Rel G τ st' s1) (F:FrOk G A τ env Γ loc s1)
  (hD:PL s1.heap D ys) (hv:VRels τ s1.heap vs ys.toList) (hz:vs.length≤sizeMax) (hn:se.heap.Ns Ca m) (hx:∀ b o,(P b→b=Ca∨b=D)→s1.heap.get? b=some o→se.heap.get? b=some o) (hg1:se.gens=s1.gens) (ho1:se.os=s1.os):CEnd G A t σ st' vs env Γ loc Ca D se
theorem compLoop_nil_ok {st₀:MS}{range:Bool}{src:V}{slot:Nat}{cnd:Option (Loc→MS→Res V)}{el:Loc→MS→Res V}{l:Loc}{acc vs:List V}{s s':MS} (e:compLoop st₀ range src slot cnd el l acc [] s=.ok vs s'):stays st₀ s range src=true∧acc=vs∧s=s':=by
 simp only [compLoop_nil] at e
 split at e
 ·rename_i h
  cases e; exact ⟨h,rfl,rfl⟩
 ·exact no_stuck e
theorem compLoop_cons_ok {st₀:MS}{range:Bool}{src x:V}{xs:List V}{slot:Nat}{P:Prog}{C:Calls}{cond:Option E}{el:Loc→MS→Res V}{l:Loc}{acc vs:List V}{s s':MS} (e:compLoop st₀ range src slot (evC P C cond) el l acc (x :: xs) s=.ok vs s') :
  stays st₀ s range src=true∧∃ b s2,condRun P C cond (l.set slot (some x)) s=.ok b s2 ∧
   (b=false∧compLoop st₀ range src slot (evC P C cond) el l acc xs s2=.ok vs s'∨b=true∧∃ y s4,el (l.set slot (some x)) s2=.ok y s4∧acc.length + 1≤sizeMax∧compLoop st₀ range src slot (evC P C cond) el l (acc ++ [y]) xs s4=.ok vs s'):=by
 simp only [compLoop_cons] at e
 split at e
 case isFalse=>exact no_stuck e
 rename_i h
 obtain ⟨b,s2,e2,e⟩:=Res.bind_ok e
 refine ⟨h,b,s2,e2,?_⟩
 cases b with
 | false =>
  simp only [Bool.false_eq_true,if_false] at e
  exact .inl ⟨rfl,e⟩
 | true =>
  simp only [if_true] at e
  obtain ⟨y,s4,e4,e⟩:=Res.bind_ok e
  split at e
  case isFalse=>exact no_stuck e
  rename_i hlen
  exact .inr ⟨rfl,y,s4,e4,hlen,e⟩
inductive CInv (G:Gd) (A:Around) (C:Calls) (t:Tie) (env:Env) (Γ:Gam) (loc:Loc) (P:Addr→Prop) (Ca D I:Addr) (s0:Shared) (st₀:MS) (range:Bool) (src:V) (xs:List V) (slot:Nat) (cond:Option E) (el:E) (vs:List V) (st':MS):Nat→Shared→Prop
 | mk (τ:Tie) (σ1:Shared) (sti:MS) (ys:Array Value) (m:PySem.Str→Option Value) (done rest acc:List V) (hxs:xs=done ++ rest) (S:Step P (t.hide P) τ s0 σ1) (R:Rel G τ sti σ1) (F:FrOk G A τ env Γ loc σ1) (hn:σ1.heap.Ns Ca m) (hD:PL σ1.heap D ys)
   (hacc:VRels τ σ1.heap acc ys.toList) (hsz:acc.length≤sizeMax) (hI:ItOk G st₀ τ σ1 I range src done.length) (e:compLoop st₀ range src slot (evC G.P C cond) (ev G.P C el) loc acc rest sti=.ok vs st'):CInv G A C t env Γ loc P Ca D I s0 st₀ range src xs slot cond el vs st' rest.length σ1
theorem ns_some {h:Heap}{a:Addr}{m:PySem.Str→Option Value} (q:h.Ns a m):(h.get? a).isSome=true:=by obtain ⟨o,_,_,q,_⟩:=q; rw [q]; rfl
theorem pl_some {h:Heap}{a:Addr}{ys:Array Value} (q:PL h a ys):(h.get? a).isSome=true:=by obtain ⟨k,q⟩:=q; rw [q]; rfl
theorem ns_keep {h h':Heap}{a:Addr}{m:PySem.Str→Option Value} (q:h.Ns a m) (k:∀ o,h.get? a=some o→h'.get? a=some o):h'.Ns a m:=by obtain ⟨o,es,ep,q1,q2⟩:=q; exact ⟨o,es,ep,k o q1,q2⟩
theorem pl_keep {h h':Heap}{a:Addr}{ys:Array Value} (q:PL h a ys) (k:∀ o,h.get? a=some o→h'.get? a=some o):PL h' a ys:=by obtain ⟨z,q⟩:=q; exact ⟨z,k _ q⟩
theorem comp_turn {range:Bool}{src:V}{xs vs:List V}{st₀:MS}{slot:Nat}{cond:Option E}{el:E}{elt:PySem.Expr}{ifs:List PySem.Expr}{scope:Scope}{x:PySem.Str}{px:Pos}{P:Addr→Prop}{Ca D I:Addr}{σ s0:Shared}{RN J:Shared→Prop}{EE:Value→Shared→Prop}{τ:Tie}{σ1:Shared}{sti:MS}{ys:Array Value}{m:PySem.Str→Option Value}{done rest acc:List V}
  (hq:d.q=true) (hA:AOk d A) (hsc:env.scope.names=sc) (K:CompOk sc scope slot Γ x)
  (hcond:CondSim G C d (compSc sc scope.names) (compGam (compSc sc scope.names) Γ slot x) cond ifs) (hel:SimE G C d (compSc sc scope.names) (compGam (compSc sc scope.names) Γ slot x) el elt)
  (nF0:∀ a,P a→¬ (t.hide P).Fr a) (np:∀ a,P a→σ.heap.get? a=none) (pC:P Ca) (pD:P D) (pI:P I) (pO:∀ a,P a→a=Ca∨a=D∨a=I) (DC:D≠Ca) (DI:D≠I) (CI:Ca≠I) (hk0:∀ b o,σ.heap.get? b=some o→s0.heap.get? b=some o) (hg0:s0.gens=σ.gens) (ho0:s0.os=σ.os)
  (hsc':(compEnvC scope (clo env scope.names []) Ca env).scope.names=compSc sc scope.names) (fl:¬ P env.locals) (fc:∀ n c,env.cells.lookup n=some c→¬ P c)
  (hx:itemsOf st₀ range src=some xs) (hxs:xs=done ++ rest) (S:Step P (t.hide P) τ s0 σ1) (R:Rel G τ sti σ1) (F:FrOk G A τ env Γ loc σ1) (hn:σ1.heap.Ns Ca m) (hD:PL σ1.heap D ys)
  (hacc:VRels τ σ1.heap acc ys.toList) (hsz:acc.length≤sizeMax) (hI:ItOk G st₀ τ σ1 I range src done.length) (e:compLoop st₀ range src slot (evC G.P C cond) (ev G.P C el) loc acc rest sti=.ok vs st')
  (hRN:∀ se,CEnd G A t σ st' vs env Γ loc Ca D se→RN se) (hJ:∀ m s,m < rest.length→CInv G A C t env Γ loc P Ca D I s0 st₀ range src xs slot cond el vs st' m s→J s) :
  wpAny G.M A (pyNext (.ref I)) (fun r s₁=>match r with
   | none=>RN s₁
   | some v=>wpAny G.M A (assign (.Name x px) (compEnvC scope (clo env scope.names []) Ca env) v) (fun _ s₂ =>
     wpAny G.M A (forIn ifs true fun c r=>if r=true then do let ok ← isTrue c (compEnvC scope (clo env scope.names []) Ca env) (eval c (compEnvC scope (clo env scope.names []) Ca env)); pure (ForInStep.yield ok) else pure (ForInStep.yield r)) (fun ok s₃ =>
      if ok=true then wpAny G.M A (eval elt (compEnvC scope (clo env scope.names []) Ca env)) (fun x s₄=>wpAny G.M A (call (.builtin "list.append") [.ref D,x]) (fun _ s₅=>J s₅) EE s₄) EE s₃
      else J s₃) EE s₂) EE s₁) EE σ1:=by
 have hpv:∀ a,P a→τ.pv a:=fun a q=>by rw [S.le.pv]; exact .inr q
 have nF:∀ a,P a→¬ τ.Fr a:=fun a q f=>nF0 a q (S.le.fr f)
 cases rest with
 | nil =>
  obtain ⟨hst,e1,e2⟩:=compLoop_nil_ok e
  have hI':ItOk G st₀ τ σ1 I range src xs.length:=by rw [hxs,List.append_nil]; exact hI
  refine it_end R (hA.hd hq) hx hst hI' fun h' tk hext=>?_
  refine hRN _ ⟨P,τ,s0,σ1,ys,m,np,pC,pD,DC,hk0,hg0,ho0,S,e2 ▸ R,F,hD,e1 ▸ hacc,e1 ▸ hsz,?_,?_,rfl,rfl⟩
  ·exact ns_keep hn fun o q=>hext _ _ CI q
  ·exact fun b o hb eb=>hext b o (fun z=>(hb (z ▸ pI)).elim (fun y=>CI (y.symm.trans z)) fun y=>DI (y.symm.trans z)) eb
 | cons x0 rest =>
  refine byQ fun Q' k'=>?_
  obtain ⟨hst,b,s2,e2,e⟩:=compLoop_cons_ok e
  refine k' ?_
  have hi:xs[done.length]?=some x0:=by rw [hxs,List.getElem?_append_right (Nat.le_refl _),Nat.sub_self]; rfl
  refine it_next R (hpv I pI) hx hst hI hi fun v h1 tk1 SA RA rv hIA=>?_
  -- the frame stands
  have FA:FrOk G A τ env Γ loc { σ1 with heap:=h1,toks:=tk1 }:=F.stepX R SA (fun a z=>by rw [z]; exact hpv _ pI) (fun z=>fl (by rw [z]; exact pI)) (fun n c hc z=>fc n c hc (by rw [z]; exact pI)) fun a z=>by rw [z]; exact nF _ pI
  have hnA:Heap.Ns h1 Ca m:=ns_keep hn fun o q=>SA.keep _ _ q (R.pv _ (hpv _ pC)) CI (nF _ pC)
  have hDA:PL h1 D ys:=pl_keep hD fun o q=>SA.keep _ _ q (R.pv _ (hpv _ pD)) DI (nF _ pD)
  have haccA:=VRels.step SA (fun a z=>by rw [z]; exact hpv _ pI) _ hacc
  refine wpAny_assign_Name (wpAny_storeName_local (lookup_relabel_local K.x) (s:={ σ1 with heap:=h1,toks:=tk1 }) hnA (fun h2 hn2 hs2=>?_) (by simp [compEnvC,relabel,K.fn]))
  change Heap.Ns h2 Ca _ at hn2
  change Heap.SameBut Ca h1 h2 at hs2
  have hl2:(h2.get? Ca).isSome=true:=ns_some hn2
  have SB:Step (·=Ca) τ τ { σ1 with heap:=h1,toks:=tk1 } { σ1 with heap:=h2,toks:=tk1 + 1 }:=Step.priv rfl hl2 hs2
  have RB:Rel G τ sti { σ1 with heap:=h2,toks:=tk1 + 1 }:=RA.priv (hpv _ pC) hl2 hs2
  have xB:∀ a,a=Ca→τ.pv a:=fun a z=>by rw [z]; exact hpv _ pC
  have FB:FrOk G A τ env Γ loc { σ1 with heap:=h2,toks:=tk1 + 1 }:=FA.stepX RA SB xB (fun z=>fl (by rw [z]; exact pC)) (fun n c hc z=>fc n c hc (by rw [z]; exact pC)) fun a z=>by rw [z]; exact nF _ pC
  have hDB:PL h2 D ys:=pl_keep hDA fun o q=>SB.keep _ _ q (RA.pv _ (hpv _ pD)) DC (nF _ pD)
  have haccB:=VRels.step SB xB _ haccA
  have rvB:VRel τ h2 x0 v:=VRel.step SB xB _ rv
  have hIB:=hIA.step SB xB RA.pv (hpv _ pI) (fun z=>CI z.symm) (nF _ pI)
  have FC:=FB.comp (x:=x) (X:=x0) hsc K (hpv _ pC) hn2 (by simp) rvB
  have SAB:Step P (t.hide P) τ s0 { σ1 with heap:=h2,toks:=tk1 + 1 }:=(S.trans (SA.mono fun a z=>by rw [z]; exact pI)).trans (SB.mono fun a z=>by rw [z]; exact pC)
  refine cond_go hcond hA hsc' FC RB e2 _ _ fun b' τ3 σ3 S3 R3 r3=>?_
  have hpv3:∀ a,P a→τ3.pv a:=fun a q=>by rw [S3.le.pv]; exact hpv a q
  have F3:=FB.step RB S3
  have nF3:∀ a,P a→¬ τ3.Fr a:=fun a q f=>nF a q (S3.le.fr f)
  have hn3:=ns_keep (h':=σ3.heap) hn2 fun o q=>S3.keep _ _ q (RB.pv _ (hpv _ pC)) (fun z=>z) (nF _ pC)
  have hD3:PL σ3.heap D ys:=pl_keep hDB fun o q=>S3.keep _ _ q (RB.pv _ (hpv _ pD)) (fun z=>z) (nF _ pD)
  have hacc3:=VRels.step S3 (fun _ z=>z.elim) _ haccB
  have hI3:=hIB.step S3 (fun _ z=>z.elim) RB.pv (hpv _ pI) (fun z=>z) (nF _ pI)
  have S03:=SAB.trans (S3.mono fun a z=>z.elim)
  have hxs':xs=(done ++ [x0]) ++ rest:=by rw [hxs]; simp
  rcases e with ⟨z,e⟩ | ⟨z,y,s4,e4,hlen,e⟩
  ·rw [if_neg (by rw [r3,z]; exact Bool.false_ne_true)]
   exact hJ _ _ (Nat.lt_succ_self _) ⟨τ3,_,s2,ys,_,done ++ [x0],rest,acc,hxs',S03,R3,F3,hn3,hD3,hacc3,hsz,by rw [List.length_append]; exact hI3,e⟩
  ·rw [if_pos (r3.trans z)]
   have FC3:=FC.step RB S3
   refine hel τ3 s2 σ3 _ (loc.set slot (some x0)) y s4 A hA hsc' FC3 R3 e4 _ _ fun u τ4 σ4 S4 R4 r4=>?_
   have hpv4:∀ a,P a→τ4.pv a:=fun a q=>by rw [S4.le.pv]; exact hpv3 a q
   have F4:=F3.step R3 S4
   have nF4:∀ a,P a→¬ τ4.Fr a:=fun a q f=>nF3 a q (S4.le.fr f)
   have hD4:PL σ4.heap D ys:=pl_keep hD3 fun o q=>S4.keep _ _ q (R3.pv _ (hpv3 _ pD)) (fun z=>z) (nF3 _ pD)
   have hacc4:=VRels.step S4 (fun _ z=>z.elim) _ hacc3
   have hI4:=hI3.step S4 (fun _ z=>z.elim) R3.pv (hpv3 _ pI) (fun z=>z) (nF3 _ pI)
   refine wpAny_list_append_plain (hsz:=by rw [size_of hacc4]; exact hsz) hD4 fun h5 hl5 hs5=>?_
   have hl:(h5.get? D).isSome=true:=pl_some hl5
   have S5:Step (·=D) τ4 τ4 σ4 { σ4 with heap:=h5,toks:=σ4.toks }:=Step.priv rfl hl hs5
   have xD:∀ a,a=D→τ4.pv a:=fun a z=>by rw [z]; exact hpv4 _ pD
   have R5:Rel G τ4 s4 { σ4 with heap:=h5,toks:=σ4.toks }:=R4.priv (hpv4 _ pD) hl hs5
   have F5:=F4.stepX R4 S5 xD (fun z=>fl (by rw [z]; exact pD)) (fun n c hc z=>fc n c hc (by rw [z]; exact pD)) fun a z=>by rw [z]; exact nF4 _ pD
   have hn5:=ns_keep (h':=h5) hn3 fun o q=>S5.keep _ _ (S4.keep _ _ q (R3.pv _ (hpv3 _ pC)) (fun z=>z) (nF3 _ pC)) (R4.pv _ (hpv4 _ pC)) (fun z=>DC z.symm) (nF4 _ pC)
   refine hJ _ _ (Nat.lt_succ_self _) ⟨τ4,_,s4,ys.push u,_,done ++ [x0],rest,acc ++ [y],hxs',(S03.trans (S4.mono fun a z=>z.elim)).trans (S5.mono fun a z=>by rw [z]; exact pD),R5,F5,hn5,hl5,?_,by rw [List.length_append]; exact hlen,?_,e⟩
   ·rw [Array.toList_push]
    exact (VRels.step S5 xD _ hacc4).append ⟨u,[],rfl,VRel.step S5 xD _ r4,rfl⟩
   ·have:=hI4.step S5 xD R4.pv (hpv4 _ pI) (fun z=>DI z.symm) (nF4 _ pI)
    rw [List.length_append]; exact this
theorem comp_loop {range:Bool}{src:V}{xs vs:List V}{st₀:MS}{slot:Nat}{cond:Option E}{el:E}{elt iter:PySem.Expr}{ifs:List PySem.Expr}{scope:Scope}{x:PySem.Str}{px pos:Pos}{P:Addr→Prop}{Ca D I:Addr}{σ s0:Shared}{m0:PySem.Str→Option Value}{RR:Result→Shared→Prop}
  (hq:d.q=true) (hA:AOk d A) (hsc:env.scope.names=sc) (K:CompOk sc scope slot Γ x)
  (hcond:CondSim G C d (compSc sc scope.names) (compGam (compSc sc scope.names) Γ slot x) cond ifs) (hel:SimE G C d (compSc sc scope.names) (compGam (compSc sc scope.names) Γ slot x) el elt)
  (nF0:∀ a,P a→¬ (t.hide P).Fr a) (np:∀ a,P a→σ.heap.get? a=none) (pC:P Ca) (pD:P D) (pI:P I) (pO:∀ a,P a→a=Ca∨a=D∨a=I) (DC:D≠Ca) (DI:D≠I) (CI:Ca≠I) (hk0:∀ b o,σ.heap.get? b=some o→s0.heap.get? b=some o) (hg0:s0.gens=σ.gens) (ho0:s0.os=σ.os)
  (F0:FrOk G A (t.hide P) env Γ loc s0) (fl:¬ P env.locals) (fc:∀ n c,env.cells.lookup n=some c→¬ P c) (R0:Rel G (t.hide P) st₀ s0) (hn0:s0.heap.Ns Ca m0) (hD0:PL s0.heap D #[]) (hI0:ItOk G st₀ (t.hide P) s0 I range src 0)
  (hx:itemsOf st₀ range src=some xs) (e:compLoop st₀ range src slot (evC G.P C cond) (ev G.P C el) loc [] xs st₀=.ok vs st')
  (hRR:∀ se,CEnd G A t σ st' vs env Γ loc Ca D se→RR (.ok .next) se) :
  codeAny G.M A (.compLoop (.ListComp elt [⟨.Name x px,iter,ifs,0⟩] scope pos) 0 (.ref I) (.ref D) (compEnvC scope (clo env scope.names []) Ca env)) RR s0:=by
 have hsc':(compEnvC scope (clo env scope.names []) Ca env).scope.names=compSc sc scope.names:=compSc_eq F0.fn hsc
 refine codeAny_compLoop_tests (CInv G A C t env Γ loc P Ca D I s0 st₀ range src xs slot cond el vs st') (fun n σ1 h=>?_) xs.length ⟨t.hide P,s0,st₀,#[],m0,[],xs,[],rfl,.refl _ _ _,R0,F0,hn0,hD0,rfl,Nat.zero_le _,hI0,e⟩
 cases h with
 | mk τ σ1 sti ys m done rest acc hxs S R F hn hD hacc hsz hI e =>
  exact comp_turn hq hA hsc K hcond hel nF0 np pC pD pI pO DC DI CI hk0 hg0 ho0 hsc' fl fc hx hxs S R F hn hD hacc hsz hI e (fun se=>hRR se) fun m s hm h=>⟨m,hm,h⟩
end
end Mine
end
section
set_option maxRecDepth 100000
namespace Mine
open PySem PySem.W PyProof.Rows
noncomputable def notSet (x:PySem.Expr):Bool:=!Nat.beq x.ctorIdx 7
theorem notSet_pure {e:PySem.Expr} (h:notSet e=true) (env:Env) (x:Value):foldedSetIterable e env x=pure x:=by
 cases e <;> first | rfl | exact no_ft h
section
variable {G:Gd}{N:Names}{C:Calls}{d:Dp}{sc:Sc}{Γ:Gam}{A:Around}{t:Tie}{st st':MS}{s:Shared}{env:Env}{loc:Loc}{X Y Z:V}{v w:Value}
theorem sys_ne (O:G.Ok N) {t:Tie}{st:MS}{σ1 σ2:Shared} (R:Rel G t st σ1) (hk:∀ b o,σ1.heap.get? b=some o→σ2.heap.get? b=some o):σ2.heap.objs.size≠sysModules:=by
 obtain ⟨mc,⟨o,es,ep,ho,_⟩,_⟩:=O.lim
 have:=Heap.lt_size (hk _ _ (R.base _ _ ho))
 intro q
 rw [q] at this
 exact absurd this (by decide)
theorem comp_go (hq:d.q=true) (O:G.Ok N) {range:Bool}{src:V}{xs vs:List V}{s1:MS}{slot:Nat}{it:E}{cond:Option E}{el:E}{elt iast j:PySem.Expr}{ifs:List PySem.Expr}{scope:Scope}{x:PySem.Str}{px pos pos':Pos}{use:Option (Value→Sem Unit)}{Q E':Value→Shared→Prop}
  (hA:AOk d A) (hsc:env.scope.names=sc) (K:CompOk sc scope slot Γ x) (hset:notSet iast=true) (ha:IterAst sc range iast j) (hj:SimE G C d sc Γ it j)
  (hcond:CondSim G C d (compSc sc scope.names) (compGam (compSc sc scope.names) Γ slot x) cond ifs) (hel:SimE G C d (compSc sc scope.names) (compGam (compSc sc scope.names) Γ slot x) el elt)
  (F:FrOk G A t env Γ loc s) (R:Rel G t st s) (e1:ev G.P C it loc st=.ok src s1) (hx:itemsOf s1 range src=some xs) (e:compLoop s1 range src slot (evC G.P C cond) (ev G.P C el) loc [] xs s1=.ok vs st')
  (hend:∀ t1 σ1 Ca D se,Step noX t t1 s σ1→Rel G t1 s1 σ1→D≠sysModules→CEnd G A t1 σ1 st' vs env Γ loc Ca D se→compPost G.M A E' use Q (.ref D) Ca (.ok .next) se) :
  wpAny G.M A (comprehension (.ListComp elt [⟨.Name x px,iast,ifs,0⟩] scope pos) scope env pos' (newList []) false (eval iast env) use) Q E' s:=by
 have hfree:∀ y∈scope.names,y.2=.free→(env.cells.lookup y.1).isSome=true:=fun y hy z=>by
  obtain ⟨_,_,_,_,hz,_⟩:=F.ex
  exact hz y.1 (by unfold Env.kindOf; rw [hsc]; exact K.free y hy z)
 refine wpAny_comprehension_free (g:=⟨.Name x px,iast,ifs,0⟩) (gs:=[]) rfl (notSet_pure hset env) (closure_eq hfree) K.fn K.loc ?_
 refine iter_go O ha hj hA hsc F R e1 hx fun t1 σ1 S1 R1 σ2 I hk hI hIl hg ho hit=>?_
 refine wpAny_newObj_type (wpAny_newFunctionEnv K.cell (by intro y hy; simp at hy) (fun h₁ hns₁ hsb₁=>?_) K.fn)
 dsimp only at hns₁ hsb₁ ⊢
 generalize hH2:σ2.heap.push { cls:=.type "list",dict:=none,data:=.seq ([]:List Value).toArray }=H2 at hns₁ hsb₁ ⊢
 have hC:H2.objs.size=σ2.heap.objs.size + 1:=by rw [← hH2,Heap.size_push]
 have DC:σ2.heap.objs.size≠H2.objs.size:=by rw [hC]; exact Nat.ne_of_lt (Nat.lt_succ_self _)
 obtain ⟨oI,hoI⟩:=Option.isSome_iff_exists.mp hIl
 have ltI:=Heap.lt_size hoI
 have DI:σ2.heap.objs.size≠I:=fun z=>Nat.lt_irrefl _ (z ▸ ltI)
 have CI:H2.objs.size≠I:=fun z=>by rw [hC] at z; exact absurd ltI (by rw [← z]; exact Nat.not_lt.mpr (Nat.le_succ _))
 have old:∀ b o,σ2.heap.get? b=some o→h₁.get? b=some o:=fun b o e=>hsb₁.extBut b o (fun z=>by
  have:=Heap.lt_size e; rw [z,hC] at this; exact absurd this (Nat.not_lt.mpr (Nat.le_succ _))) (Heap.get?_push_of_some _ (hH2 ▸ Heap.get?_push_of_some _ e))
 have hacc:PL h₁ σ2.heap.objs.size #[]:=⟨_,hsb₁.extBut _ _ DC (Heap.get?_push_of_some _ (hH2 ▸ Heap.get?_push_size _ rfl))⟩
 let P:Addr→Prop:=fun a=>a=H2.objs.size∨a=σ2.heap.objs.size∨a=I
 have np:∀ a,P a→σ1.heap.get? a=none:=by
  rintro a (z | z | z)
  ·rw [z,hC]; exact none_later hk (size_none1 _)
  ·rw [z]; exact none_later hk (size_none _)
  ·rw [z]; exact hI
 have hk0:∀ b o,σ1.heap.get? b=some o→h₁.get? b=some o:=fun b o e=>old b o (hk b o e)
 have hlP:∀ a,P a→(h₁.get? a).isSome=true:=by
  rintro a (z | z | z)
  ·rw [z]; obtain ⟨o,_,_,q,_⟩:=hns₁; rw [q]; rfl
  ·rw [z]; obtain ⟨k,q⟩:=hacc; rw [q]; rfl
  ·rw [z,old _ _ hoI]; rfl
 have F1:=F.step R S1
 have notP:∀ a,t1.pv a→¬ P a:=fun a q z=>by
  have:=R1.live a (.inr q)
  rw [np a z] at this; exact no_ft this
 have F0:FrOk G A (t1.hide P) env Γ loc { σ2 with heap:=h₁,toks:=σ2.toks + ([]:List (PySem.Str×Value)).length }:=F1.hideGrow np hk0 hg ho
 have R0:Rel G (t1.hide P) s1 { σ2 with heap:=h₁,toks:=σ2.toks + ([]:List (PySem.Str×Value)).length }:=R1.hideGrow np hk0 hlP hg ho
 have SG:Step noX (t1.hide P) (t1.hide P) σ1 { σ2 with heap:=h₁,toks:=σ2.toks + ([]:List (PySem.Str×Value)).length }:=⟨.refl _,fun a o e _ _ _=>hk0 a o e,fun a o e _ _ _=>⟨o.slots,hk0 a o e⟩,fun _ o=>.inl o,fun a o e=>by show (h₁.get? a).isSome=true; rw [hk0 a o e]; rfl,hg,ho⟩
 have I0:ItOk G s1 (t1.hide P) { σ2 with heap:=h₁,toks:=σ2.toks + ([]:List (PySem.Str×Value)).length } I range src 0:=hit _ _ (fun a r=>VRel.step SG (fun _ z=>z.elim) _ (VRel.hide np _ r)) rfl fun b o e=>old b o e
 have loop:codeAny G.M A (.compLoop (.ListComp elt [⟨.Name x px,iast,ifs,0⟩] scope pos) 0 (.ref I) (.ref σ2.heap.objs.size) (compEnvC scope (clo env scope.names []) H2.objs.size env))
   (compPost G.M A E' use Q (.ref σ2.heap.objs.size) H2.objs.size) { σ2 with heap:=h₁,toks:=σ2.toks + ([]:List (PySem.Str×Value)).length } :=
  comp_loop (P:=P) (t:=t1) (σ:=σ1) hq hA hsc K hcond hel (fun a q=>F1.sk.fresh (np a q)) np (.inl rfl) (.inr (.inl rfl)) (.inr (.inr rfl)) (fun a z=>z) DC DI CI hk0 hg ho F0 (notP _ F1.pvl) (fun n c hc=>notP _ (F1.pvc n c hc)) R0 hns₁ hacc I0 hx e fun se ce=>hend t1 σ1 _ _ se S1 R1 (sys_ne O R1 hk) ce
 exact codeAny_compStart_list loop (it_self R0 (hA.hd hq) I0 loop)
noncomputable def valM (M:Option Nat) (st:MS) (vs:List V):V:=match M with | none=>.lst vs | some k=>.ref (k,st.cnt k)
noncomputable def stM (M:Option Nat) (st:MS) (vs:List V):MS:=match M with | none=>st | some k=>st.new k (.list vs)
theorem VRels.all {t t':Tie}{h h':Heap} (k:∀ (X:V) (v:Value),VRel t h X v→VRel t' h' X v):∀ {l:List V}{vs:List Value},VRels t h l vs→VRels t' h' l vs
 | [],_,e=>e
 | x :: _,_,⟨v,r,e,a,b⟩=>⟨v,r,e,k x v a,VRels.all k b⟩
section
variable {P L:Addr→Prop}{τ:Tie}{σ s0 s1 se:Shared}{D:Addr} (R₁:Rel G t st σ) (np:∀ a,P a→σ.heap.get? a=none) (pD:P D) (hk0:∀ b o,σ.heap.get? b=some o→s0.heap.get? b=some o) (hg0:s0.gens=σ.gens) (ho0:s0.os=σ.os)
  (S:Step P (t.hide P) τ s0 s1) (R:Rel G τ st' s1) (hL:∀ a,L a→t.pv a∧(se.heap.get? a).isSome=true)
  (hext:∀ b o,(P b→b=D)→¬ L b→s1.heap.get? b=some o→se.heap.get? b=some o) (hg:se.gens=s1.gens) (ho:se.os=s1.os)
include R₁ np pD hk0 hg0 ho0 S R hL hext hg ho
theorem end_own (hsys:D≠sysModules) {k:Nat}{o:MObj} (hO:∀ t2,(∀ (X:V) (v:Value),VRel τ s1.heap X v→VRel t2 se.heap X v)→t2.ρ (k,st'.cnt k)=some D→ObjOk G t2 se.heap (k,st'.cnt k) o) :
  ∃ t2,Step L t t2 σ se∧Rel G t2 (st'.new k o) se∧VRel t2 se.heap (.ref (k,st'.cnt k)) (.ref D)∧t2.pv=t.pv∧∀ (X:V) (v:Value),VRel τ s1.heap X v→VRel t2 se.heap X v:=by
 have hpv:τ.pv=(t.hide P).pv:=S.le.pv
 have nP:∀ a,t.pv a→¬ P a:=fun a q z=>by
  have:=R₁.live a (.inr q)
  rw [np a z] at this; exact no_ft this
 have pτ:∀ a,t.pv a→τ.pv a:=fun a q=>by rw [hpv]; exact .inl q
 have Fg:Forget P L τ { τ with pv:=t.pv,st:=t.st } s1 se :=
  ⟨rfl,rfl,fun a q=>⟨pτ a q,nP a q⟩,fun a q=>by rw [hpv]; exact .inr q,fun a q=>⟨pτ a (hL a q).1,(hL a q).2⟩,fun b o nb nl e=>hext b o (fun q=>(nb q).elim) nl e,hg,ho,rfl⟩
 have S2:=Step.unhide (X:=P) (fun a q=>.inl q) np hk0 hg0 ho0 S Fg
 have Fg':Forget (fun a=>P a∧a≠D) L τ { τ with pv:=fun a=>t.pv a∨a=D,st:=t.st } s1 se :=
  ⟨rfl,rfl,fun a q=>q.elim (fun q=>⟨pτ a q,fun z=>nP a q z.1⟩) (fun q=>⟨by rw [hpv,q]; exact .inr pD,fun z=>z.2 q⟩),fun a q=>by rw [hpv]; exact .inr q.1,fun a q=>⟨pτ a (hL a q).1,(hL a q).2⟩,
   fun b o nb nl e=>hext b o (fun q=>Classical.byContradiction fun z=>nb ⟨q,z⟩) nl e,hg,ho,rfl⟩
 obtain ⟨c1,c2,-⟩:=R.cnt k _ (Nat.le_refl _)
 have A:=(R.forget Fg').adopt (k:=k) (o:=o) (pv':=t.pv) (.inr rfl) (fun a=>Iff.rfl) (fun q=>nP D q pD) hsys fun up=>hO _ (fun X v r=>up X v (VRel.forget Fg' X r)) (if_pos rfl)
 exact ⟨_,S2.own (l:=(k,st'.cnt k)) (np D pD) c1 c2,A.1,⟨D,rfl,if_pos rfl⟩,rfl,fun X v r=>VRel.map A.2.1 A.2.2 X (VRel.forget Fg' X r)⟩
theorem comp_end (hsys:D≠sysModules) {ys:Array Value}{vs:List V} (hD:PL s1.heap D ys) (hacc:VRels τ s1.heap vs ys.toList) (hsz:vs.length≤sizeMax) (M:Option Nat) :
  ∃ t2,Step L t t2 σ se∧Rel G t2 (stM M st' vs) se∧VRel t2 se.heap (valM M st' vs) (.ref D)∧t2.pv=t.pv∧∀ (X:V) (v:Value),VRel τ s1.heap X v→VRel t2 se.heap X v:=by
 have hpv:τ.pv=(t.hide P).pv:=S.le.pv
 have nP:∀ a,t.pv a→¬ P a:=fun a q z=>by
  have:=R₁.live a (.inr q)
  rw [np a z] at this; exact no_ft this
 have hD':PL se.heap D ys:=let ⟨k,q⟩:=hD; ⟨k,hext D _ (fun _=>rfl) (fun q=>nP D (hL D q).1 pD) q⟩
 cases M with
 | none =>
  have pτ:∀ a,t.pv a→τ.pv a:=fun a q=>by rw [hpv]; exact .inl q
  have Fg:Forget P L τ { τ with pv:=t.pv,st:=t.st } s1 se :=
   ⟨rfl,rfl,fun a q=>⟨pτ a q,nP a q⟩,fun a q=>by rw [hpv]; exact .inr q,fun a q=>⟨pτ a (hL a q).1,(hL a q).2⟩,fun b o nb nl e=>hext b o (fun q=>(nb q).elim) nl e,hg,ho,rfl⟩
  refine ⟨_,Step.unhide (X:=P) (fun a q=>.inl q) np hk0 hg0 ho0 S Fg,R.forget Fg,⟨D,ys,rfl,hD',?_,hsz,VRels.forget Fg _ hacc⟩,rfl,fun X v r=>VRel.forget Fg X r⟩
  rintro (q | q)
  ·exact R.pv D (by rw [hpv]; exact .inr pD) q
  ·exact nP D q pD
 | some k=>exact end_own R₁ np pD hk0 hg0 ho0 S R hL hext hg ho hsys fun t2 up hr=>⟨D,ys,hr,hD',hsz,VRels.all up hacc⟩
end
theorem sim_comp (hq:d.q=true) (O:G.Ok N) {M:Option Nat}{range:Bool}{slot:Nat}{it:E}{cond:Option E}{el:E}{elt iast j:PySem.Expr}{ifs:List PySem.Expr}{scope:Scope}{x:PySem.Str}{px pos:Pos}
  (K:CompOk sc scope slot Γ x) (hset:notSet iast=true) (ha:IterAst sc range iast j) (hj:SimE G C d sc Γ it j)
  (hcond:CondSim G C d (compSc sc scope.names) (compGam (compSc sc scope.names) Γ slot x) cond ifs) (hel:SimE G C d (compSc sc scope.names) (compGam (compSc sc scope.names) Γ slot x) el elt) :
  SimE G C d sc Γ (.comp M slot range it cond el) (.ListComp elt [⟨.Name x px,iast,ifs,0⟩] scope pos):=by
 intro t st s env loc X st' A hA hsc F R e Q E k
 rw [ev_comp] at e
 obtain ⟨src,s1,e1,e⟩:=Res.bind_ok e
 split at e
 ·rename_i xs hx
  obtain ⟨vs,s2,e2,e⟩:=Res.bind_ok e
  obtain ⟨rfl,rfl⟩:X=valM M s2 vs∧st'=stM M s2 vs:=by cases M <;> (cases e; exact ⟨rfl,rfl⟩)
  rw [eval_ListComp]
  refine comp_go (use:=none) hq O hA hsc K hset ha hj hcond hel F R e1 hx e2 fun t1 σ1 Ca D se S1 R1 hsys ce=>?_
  obtain ⟨P,τ,s0,s1',ys,m,np,pC,pD,DC,hk0,hg0,ho0,S,Rr,Fr,hD,hacc,hsz,hn,hext,hg,ho⟩:=ce
  refine ⟨m,hn,fun h' hs=>?_⟩
  obtain ⟨t2,S2,R2,r2,-,-⟩:=comp_end (L:=noX) (se:={ se with heap:=h' }) R1 np pD hk0 hg0 ho0 S Rr (fun a z=>z.elim) (fun b o hb _ e=>(hs.2 b fun (z:b=Ca)=>DC (z ▸ hb (z ▸ pC)).symm).trans (hext b o (fun q=>.inr (hb q)) e)) hg ho hsys hD hacc hsz M
  exact k _ t2 _ (S1.trans S2) R2 r2
 ·exact no_stuck e
end
end Mine
end
section
set_option maxRecDepth 100000
namespace Mine
open PySem PySem.W PyProof.Rows
noncomputable def own (env:Env):Addr→Prop:=fun a=>a=env.locals∨∃ n,env.cells.lookup n=some a
noncomputable def GamInj (Γ:Gam):Prop:=∀ (i j:Nat) (y:PySem.Str),Γ[i]?=some (some y)→Γ[j]?=some (some y)→i=j
section
variable {G:Gd}{N:Names}{C:Calls}{d:Dp}{sc:Sc}{Γ:Gam}{A:Around}{t:Tie}{st st':MS}{s:Shared}{env:Env}{loc:Loc}{X Y Z:V}{v w:Value}
theorem FrOk.ownPv (F:FrOk G A t env Γ loc s):∀ a,own env a→t.pv a:=by
 rintro a (rfl | ⟨n,h⟩)
 ·exact F.pvl
 ·exact F.pvc n a h
theorem FrOk.noClass (F:FrOk G A t env Γ loc s):(env.scope.kind == .class || (env.scope.kind == .module && env.locals != env.globals))=false:=by rw [F.fn]; rfl
theorem ns_cell {h:Heap}{a c:Addr}{m:PySem.Str→Option Value}{o:Option Value} (hn:h.Ns a m) (hc:h.IsCell c o):c≠a:=fun z=>by
 obtain ⟨ob,es,ep,h1,h2,_⟩:=hn
 obtain ⟨oc,h3,h4⟩:=hc
 rw [z,h1] at h3
 cases h3
 rw [h2] at h4
 cases h4
theorem ns_live {h:Heap}{a:Addr}{m:PySem.Str→Option Value} (hn:h.Ns a m):(h.get? a).isSome=true:=by obtain ⟨o,_,_,z,_⟩:=hn; rw [z]; rfl
theorem cell_live {h:Heap}{c:Addr}{o:Option Value} (hc:h.IsCell c o):(h.get? c).isSome=true:=by obtain ⟨o,z,_⟩:=hc; rw [z]; rfl
theorem ns_plain {h:Heap}{a:Addr}{m:PySem.Str→Option Value}{o:Obj} (hn:h.Ns a m) (e:h.get? a=some o) (vs:Array Value):o.data≠.fields vs:=fun z=>by
 obtain ⟨ob,es,ep,h1,h2,_⟩:=hn
 cases h1.symm.trans e
 cases h2.symm.trans z
theorem cell_plain {h:Heap}{c:Addr}{u:Option Value}{o:Obj} (hc:h.IsCell c u) (e:h.get? c=some o) (vs:Array Value):o.data≠.fields vs:=fun z=>by
 obtain ⟨ob,h1,h2⟩:=hc
 cases h1.symm.trans e
 cases h2.symm.trans z
theorem ns_kept {h h':Heap}{a:Addr}{m:PySem.Str→Option Value} (hk:∀ o,h.get? a=some o→h'.get? a=some o) (hn:h.Ns a m):h'.Ns a m:=by
 obtain ⟨o,es,ep,h1,h2⟩:=hn
 exact ⟨o,es,ep,hk o h1,h2⟩
theorem cell_keep {h h':Heap}{a:Addr}{u:Option Value} (hk:∀ o,h.get? a=some o→h'.get? a=some o) (hn:h.IsCell a u):h'.IsCell a u:=by
 obtain ⟨o,h1,h2⟩:=hn
 exact ⟨o,hk o h1,h2⟩
theorem set_at {loc:Loc}{i:Nat} (e:(loc.set i (some X))[i]?=some (some Y)):Y=X:=by
 by_cases h:i < loc.length
 ·rw [List.getElem?_set_self h] at e; cases e; rfl
 ·rw [List.getElem?_eq_none (by rw [List.length_set]; exact Nat.le_of_not_lt h)] at e; exact no_none e
theorem locs_set {At At':PySem.Str→Value→Prop}{h h':Heap}{t':Tie} (gi:GamInj Γ) {i:Nat}{y:PySem.Str} (hi:Γ[i]?=some (some y)) (hs:∀ (j:Nat) (x:PySem.Str) (Y:V),Γ[j]?=some (some x)→loc[j]?=some (some Y)→∃ u,VRel t h Y u∧At x u) (r:VRel t' h' X v) (hy:At' y v)
  (ho:∀ x u,x≠y→At x u→At' x u) (up:∀ Y u,VRel t h Y u→VRel t' h' Y u) (j:Nat) (x:PySem.Str) (Y:V) (e1:Γ[j]?=some (some x)) (e2:(loc.set i (some X))[j]?=some (some Y)):∃ u,VRel t' h' Y u∧At' x u:=by
 by_cases z:j=i
 ·subst z
  cases hi.symm.trans e1
  cases set_at e2
  exact ⟨v,r,hy⟩
 ·rw [List.getElem?_set_ne (fun e=>z e.symm)] at e2
  obtain ⟨u,u1,u2⟩:=hs j x Y e1 e2
  exact ⟨u,up _ _ u1,ho x u (fun e=>z (gi j i y (e ▸ e1) hi)) u2⟩
theorem store_local (F:FrOk G A t env Γ loc s) (R:Rel G t st s) (gi:GamInj Γ) {i:Nat}{y:PySem.Str} (hi:Γ[i]?=some (some y)) (hk:env.kindOf y=some .local) (r:VRel t s.heap X v) {Q:Unit→Shared→Prop}{E':Value→Shared→Prop}
  (q:∀ s',Step (own env) t t s s'→Rel G t st s'→FrOk G A t env Γ (loc.set i (some X)) s'→Q () s'):wpAny G.M A (storeName env y v) Q E' s:=by
 obtain ⟨m,cm,hn,hcc,hz,hs⟩:=F.ex
 refine wpAny_storeName_local hk hn (fun h' hn' hs'=>?_) F.noClass
 have hl:=ns_live hn'
 have S:Step (own env) t t s { s with heap:=h',toks:=s.toks + 1 }:=Step.priv (.inl rfl) hl hs'
 have sk:Stk A t h':=F.sk.step R (Step.priv (X:=(·=env.locals)) (tk:=s.toks + 1) rfl hl hs') fun a x _ o e=>by subst x; exact ns_plain hn' e
 exact q _ S (R.priv F.pvl hl hs') ⟨sk,F.fn,F.gl,F.bl,F.pvl,F.pvc,F.apart,_,cm,hn',fun n c e=>cell_keep (fun o h=>(hs'.2 c (ns_cell hn (hcc n c e))).trans h) (hcc n c e),hz,
  locs_set (At':=fun x u=>(env.kindOf x=some .local∧(if x=y then some v else m x)=some u)∨(env.kindOf x=some .cell∧cm x=some u)) gi hi hs (VRel.step S F.ownPv _ r) (.inl ⟨hk,if_pos rfl⟩) (fun x u hne p=>p.imp (fun p=>⟨p.1,(if_neg hne).trans p.2⟩) id) fun Y u=>VRel.step S F.ownPv Y⟩
theorem store_cell (F:FrOk G A t env Γ loc s) (R:Rel G t st s) (gi:GamInj Γ) {i:Nat}{y:PySem.Str} (hi:Γ[i]?=some (some y)) (hk:env.kindOf y=some .cell) (r:VRel t s.heap X v) {Q:Unit→Shared→Prop}{E':Value→Shared→Prop}
  (q:∀ s',Step (own env) t t s s'→Rel G t st s'→FrOk G A t env Γ (loc.set i (some X)) s'→Q () s'):wpAny G.M A (storeName env y v) Q E' s:=by
 obtain ⟨m,cm,hn,hcc,hz,hs⟩:=F.ex
 obtain ⟨c,hcl⟩:=Option.isSome_iff_exists.mp (hz y hk)
 have hc:=hcc y c hcl
 have hne:=ns_cell hn hc
 refine wpAny_storeName_cell F.fn hk hcl hc fun h' hc' hs'=>?_
 have hl:=cell_live hc'
 have S:Step (own env) t t s { s with heap:=h',toks:=s.toks }:=Step.priv (.inr ⟨y,hcl⟩) hl hs'
 have sk:Stk A t h':=F.sk.step R (Step.priv (X:=(·=c)) (tk:=s.toks) rfl hl hs') fun a x _ o e=>by subst x; exact cell_plain hc' e
 refine q _ S (R.priv (F.pvc y c hcl) hl hs') ⟨sk,F.fn,F.gl,F.bl,F.pvl,F.pvc,F.apart,m,fun n=>if n=y then some v else cm n,ns_kept (fun o h=>(hs'.2 _ hne.symm).trans h) hn,fun n c' e=>?_,hz,
  locs_set (At':=fun x u=>(env.kindOf x=some .local∧m x=some u)∨(env.kindOf x=some .cell∧(if x=y then some v else cm x)=some u)) gi hi hs (VRel.step S F.ownPv _ r) (.inr ⟨hk,if_pos rfl⟩) (fun x u hne p=>p.imp id fun p=>⟨p.1,(if_neg hne).trans p.2⟩) fun Y u=>VRel.step S F.ownPv Y⟩
 by_cases z:n=y
 ·subst z
  cases hcl.symm.trans e
  show Heap.IsCell h' c (if n=n then some v else cm n)
  rw [if_pos rfl]; exact hc'
 ·show Heap.IsCell h' c' (if n=y then some v else cm n)
  rw [if_neg z]
  exact cell_keep (fun o h=>(hs'.2 c' fun q=>z (F.apart n y c (q ▸ e) hcl)).trans h) (hcc n c' e)
theorem store_go (F:FrOk G A t env Γ loc s) (R:Rel G t st s) (gi:GamInj Γ) {i:Nat}{y:PySem.Str} (hi:Γ[i]?=some (some y)) (hk:env.kindOf y=some .local∨env.kindOf y=some .cell) (r:VRel t s.heap X v) {Q:Unit→Shared→Prop}{E':Value→Shared→Prop}
  (q:∀ s',Step (own env) t t s s'→Rel G t st s'→FrOk G A t env Γ (loc.set i (some X)) s'→Q () s'):wpAny G.M A (storeName env y v) Q E' s :=
 hk.elim (fun hk=>store_local F R gi hi hk r q) fun hk=>store_cell F R gi hi hk r q
noncomputable def TopA (A:Around) (env:Env):Prop:=∃ outer,A.frames=some (env :: outer)∧env.frame=some env.locals
noncomputable def FlRel (t:Tie) (h:Heap):Fl→Flow→Prop
 | .next,f=>f=.next
 | .ret X,f=>∃ v,f=.ret v∧VRel t h X v
noncomputable def SimF (G:Gd) (A:Around) (env:Env) (Γ:Gam) (t:Tie) (s:Shared) (tree:Sem Flow) (st':MS) (fl:Fl) (loc':Loc):Prop :=
 ∀ (Q:Flow→Shared→Prop) (E:Value→Shared→Prop),(∀ f t' s',Step (own env) t t' s s'→Rel G t' st' s'→FrOk G A t' env Γ loc' s'→FlRel t' s'.heap fl f→Q f s')→wpAny G.M A tree Q E s
noncomputable def SimS (G:Gd) (C:Calls) (d:Dp) (sc:Sc) (Γ:Gam) (n:Nat) (x:S) (ast:Stmt):Prop :=
 ∀ t st s env loc fl loc' st' A,AOk d A→TopA A env→env.scope.names=sc→FrOk G A t env Γ loc s→Rel G t st s→ex G.P C n x loc st=.ok (fl,loc') st'→SimF G A env Γ t s (exec ast env) st' fl loc'
noncomputable def SimB (G:Gd) (C:Calls) (d:Dp) (sc:Sc) (Γ:Gam) (n:Nat) (l:List S) (m:List Stmt):Prop :=
 ∀ t st s env loc fl loc' st' A,AOk d A→TopA A env→env.scope.names=sc→FrOk G A t env Γ loc s→Rel G t st s→exs G.P C n l loc st=.ok (fl,loc') st'→SimF G A env Γ t s (execs m env) st' fl loc'
variable {n:Nat}
theorem SimF.ofE {A:Around}{tree:Sem Flow}{fl:Fl}{loc':Loc}{t1:Tie}{s1:Shared} (S:Step noX t t1 s s1) (h:SimF G A env Γ t1 s1 tree st' fl loc') {Q:Flow→Shared→Prop}{E':Value→Shared→Prop}
  (k:∀ f t' s',Step (own env) t t' s s'→Rel G t' st' s'→FrOk G A t' env Γ loc' s'→FlRel t' s'.heap fl f→Q f s'):wpAny G.M A tree Q E' s1 :=
 h Q E' fun f t' s' S' R' F' r=>k f t' s' ((S.mono fun _ z=>z.elim).trans S') R' F' r
theorem simB_nil:SimB G C d sc Γ n [] []:=by
 intro t st s env loc fl loc' st' A hA hT hsc F R e Q E k
 simp only [exs_nil,exs_cons] at e
 cases e
 exact wpAny_execs_nil (k _ t s (.refl _ _ _) R F rfl)
theorem simB_cons {x:S}{l:List S}{ast:Stmt}{m:List Stmt} (h1:SimS G C d sc Γ n x ast) (h2:SimB G C d sc Γ n l m):SimB G C d sc Γ n (x :: l) (ast :: m):=by
 intro t st s env loc fl loc' st' A hA hT hsc F R e Q E k
 simp only [exs_nil,exs_cons] at e
 obtain ⟨⟨f1,l1⟩,s1,e1,e⟩:=Res.bind_ok e
 refine wpAny_execs_cons (h1 t st s env loc f1 l1 s1 A hA hT hsc F R e1 _ _ fun f t1 σ1 S1 R1 F1 r1=>?_)
 cases f1 with
 | next =>
  have r1:f=.next:=r1
  subst r1
  exact h2 t1 s1 σ1 env l1 fl loc' st' A hA hT hsc F1 R1 e _ _ fun f t2 σ2 S2 R2 F2 r2=>k f t2 σ2 (S1.trans S2) R2 F2 r2
 | ret X =>
  obtain ⟨v,rfl,r⟩:=r1
  cases e
  exact k _ t1 σ1 S1 R1 F1 ⟨v,rfl,r⟩
noncomputable def notComp (x:PySem.Expr):Bool:=!(Nat.beq x.ctorIdx 8 || Nat.beq x.ctorIdx 9 || Nat.beq x.ctorIdx 10)
theorem swaps_no {e:PySem.Expr} (h:notComp e=true) (tg:Option PySem.Expr) (ln:Nat) (env:Env):swapsWith e tg ln env=pure false:=by
 cases e <;> first | rfl | exact no_ft h
theorem simS_expr {a:E}{x:PySem.Expr}{pos:Pos} (hx:notComp x=true) (ha:SimE G C d sc Γ a x):SimS G C d sc Γ n (.expr a) (.Expr x pos):=by
 intro t st s env loc fl loc' st' A hA hT hsc F R e Q E k
 rw [ex_expr] at e
 obtain ⟨V,s1,e1,e⟩:=Res.bnd_ok e
 cases e
 refine wpAny_Expr_any (ha t st s env loc _ _ A hA hsc F R e1 _ _ fun v t1 σ1 S1 R1 r1=>?_) (by unfold interactive; rw [F.fn]; rfl) (swaps_no hx _ _ _)
 exact k _ t1 σ1 (S1.mono fun _ z=>z.elim) R1 (F.step R S1) rfl
theorem simS_ret0 {pos:Pos}:SimS G C d sc Γ n (.ret none) (.Return none pos):=by
 intro t st s env loc fl loc' st' A hA hT hsc F R e Q E k
 rw [ex_ret] at e
 cases e
 exact wpAny_Return_none (k _ t s (.refl _ _ _) R F ⟨_,rfl,rfl⟩)
theorem simS_ret {a:E}{x:PySem.Expr}{pos:Pos} (ha:SimE G C d sc Γ a x):SimS G C d sc Γ n (.ret (some a)) (.Return (some x) pos):=by
 intro t st s env loc fl loc' st' A hA hT hsc F R e Q E k
 rw [ex_ret] at e
 obtain ⟨V,s1,e1,e⟩:=Res.bnd_ok e
 cases e
 refine wpAny_Return_some (ha t st s env loc _ _ A hA hsc F R e1 _ _ fun v t1 σ1 S1 R1 r1=>?_)
 exact k _ t1 σ1 (S1.mono fun _ z=>z.elim) R1 (F.step R S1) ⟨v,rfl,r1⟩
noncomputable def kindOk (sc:Sc) (y:PySem.Str):Bool:=sc.lookup y == some .local || sc.lookup y == some .cell
theorem kindOk_real (hsc:env.scope.names=sc) {y:PySem.Str} (h:kindOk sc y=true):env.kindOf y=some .local∨env.kindOf y=some .cell:=by
 unfold Env.kindOf; rw [hsc]
 simpa [kindOk] using h
theorem simS_assign (gi:GamInj Γ) {i:Nat}{y:PySem.Str}{a:E}{x:PySem.Expr}{yp pos:Pos} (hi:Γ[i]?=some (some y)) (hk:kindOk sc y=true) (hx:notComp x=true) (ha:SimE G C d sc Γ a x):SimS G C d sc Γ n (.assign i a) (.Assign [.Name y yp] x pos):=by
 intro t st s env loc fl loc' st' A hA hT hsc F R e Q E k
 rw [ex_assign] at e
 obtain ⟨V,s1,e1,e⟩:=Res.bnd_ok e
 split at e
 case isFalse=>exact no_stuck e
 cases e
 refine wpAny_Assign_Name (ha t st s env loc _ _ A hA hsc F R e1 _ _ fun v t1 σ1 S1 R1 r1=>?_) (swaps_no hx _ _ _)
 exact store_go (F.step R S1) R1 gi hi (kindOk_real hsc hk) r1 fun σ2 S2 R2 F2=>k _ t1 σ2 ((S1.mono fun _ z=>z.elim).trans S2) R2 F2 rfl
theorem swaps_attr (e o:PySem.Expr) (a:PySem.Str) (p:Pos) (ln:Nat) (env:Env):swapsWith e (some (.Attribute o a p)) ln env=pure false:=by cases e <;> rfl
theorem simS_setattr (O:G.Ok N) (hcl:∀ c Ca,G.ca c=some Ca→ClsOk G Ca) {i:Nat}{a b:E}{x y:PySem.Expr}{ap pos:Pos} (hi:i < 13) (ha:SimE G C d sc Γ a x) (hb:SimE G C d sc Γ b y):SimS G C d sc Γ n (.setattr a i b) (.Assign [.Attribute x (G.an i) ap] y pos):=by
 intro t st s env loc fl loc' st' A hA hT hsc F R e Q E k
 rw [ex_setattr] at e
 obtain ⟨V,s1,e1,e⟩:=Res.bnd_ok e
 obtain ⟨U,s2,e2,e⟩:=Res.bnd_ok e
 obtain ⟨u,s3,e3,e⟩:=Res.bnd_ok e
 cases e
 refine plainObj_wpAny_Assign_Attribute (hb t st s env loc _ _ A hA hsc F R e1 _ _ fun v t1 σ1 S1 R1 r1=>?_) (swaps_attr _ _ _ _ _ _)
 refine ha t1 s1 σ1 env loc _ _ A hA hsc (F.step R S1) R1 e2 _ _ fun w t2 σ2 S2 R2 r2=>?_
 refine setAttr_sound O hcl hi R2 r2 (VRel.step S2 (fun _ z=>z.elim) _ r1) e3 _ _ fun _ t3 σ3 S3 R3 _=>?_
 exact k _ t3 σ3 ((((S1.trans S2).trans S3)).mono fun _ z=>z.elim) R3 (((F.step R S1).step R1 S2).step R2 S3) rfl
theorem simS_setitem {a b c:E}{x y z:PySem.Expr}{ap pos:Pos} (hz:notComp z=true) (ha:SimE G C d sc Γ a x) (hb:SimE G C d sc Γ b y) (hc:SimE G C d sc Γ c z):SimS G C d sc Γ n (.setitem a b c) (.Assign [.Subscript x y ap] z pos):=by
 intro t st s env loc fl loc' st' A hA hT hsc F R e Q E k
 rw [ex_setitem] at e
 obtain ⟨V,s1,e1,e⟩:=Res.bnd_ok e
 obtain ⟨U,s2,e2,e⟩:=Res.bnd_ok e
 obtain ⟨W,s3,e3,e⟩:=Res.bnd_ok e
 obtain ⟨u,s4,e4,e⟩:=Res.bnd_ok e
 cases e
 refine wpAny_Assign_Subscript (hc t st s env loc _ _ A hA hsc F R e1 _ _ fun v t1 σ1 S1 R1 r1=>?_) (swaps_no hz _ _ _)
 have F1:=F.step R S1
 refine ha t1 s1 σ1 env loc _ _ A hA hsc F1 R1 e2 _ _ fun w t2 σ2 S2 R2 r2=>?_
 have F2:=F1.step R1 S2
 refine hb t2 s2 σ2 env loc _ _ A hA hsc F2 R2 e3 _ _ fun i t3 σ3 S3 R3 r3=>?_
 have F3:=F2.step R2 S3
 refine setItem_sound R3 (VRel.step S3 (fun _ z=>z.elim) _ r2) r3 (VRel.step (S2.trans S3) (fun _ z=>z.elim) _ r1) e4 _ _ fun _ t4 σ4 S4 R4 _=>?_
 exact k _ t4 σ4 ((((S1.trans S2).trans S3).trans S4).mono fun _ z=>z.elim) R4 (F3.step R3 S4) rfl
theorem simS_ite {c:E}{b1 b2:List S}{x:PySem.Expr}{m1 m2:List Stmt}{pos:Pos} (hc:SimT G C d sc Γ c x) (h1:SimB G C d sc Γ n b1 m1) (h2:SimB G C d sc Γ n b2 m2):SimS G C d sc Γ n (.ite c b1 b2) (.If x m1 m2 pos):=by
 intro t st s env loc fl loc' st' A hA hT hsc F R e Q E k
 rw [ex_ite] at e
 obtain ⟨V,s1,e1,e⟩:=Res.bnd_ok e
 obtain ⟨b,s2,e2,e⟩:=Res.bnd_ok e
 obtain ⟨rfl,rfl⟩:=truth_ok e2
 refine wpAny_If (hc t st s env loc b _ A hA hsc F R e1 _ _ fun b' t1 σ1 S1 R1 r1=>?_)
 subst r1
 cases b' with
 | true =>
  simp only [if_true] at e ⊢
  exact SimF.ofE S1 (h1 t1 _ σ1 env loc fl loc' st' A hA hT hsc (F.step R S1) R1 e) k
 | false =>
  simp only [Bool.false_eq_true,if_false] at e ⊢
  exact SimF.ofE S1 (h2 t1 _ σ1 env loc fl loc' st' A hA hT hsc (F.step R S1) R1 e) k
end
end Mine
end
section
set_option maxRecDepth 100000
namespace Mine
open PySem PySem.W PyProof.Rows
section
variable {G:Gd}{N:Names}{C:Calls}{d:Dp}{sc:Sc}{Γ:Gam}{A:Around}{t:Tie}{st st':MS}{s:Shared}{env:Env}{loc:Loc}{X Y Z:V}{v w:Value}{n:Nat}
inductive TgtOk (G:Gd) (C:Calls) (d:Dp) (sc:Sc) (Γ:Gam):T→PySem.Expr→Prop
 | loc {i:Nat}{y:PySem.Str}{p:Pos} (hi:Γ[i]?=some (some y)) (hk:kindOk sc y=true):TgtOk G C d sc Γ (.loc i) (.Name y p)
 | item {a b:E}{x y:PySem.Expr}{p:Pos} (ha:SimE G C d sc Γ a x) (hb:SimE G C d sc Γ b y):TgtOk G C d sc Γ (.item a b) (.Subscript x y p)
inductive TgtsOk (G:Gd) (C:Calls) (d:Dp) (sc:Sc) (Γ:Gam):List T→List PySem.Expr→Prop
 | nil:TgtsOk G C d sc Γ [] []
 | cons {tg:T}{l:List T}{x:PySem.Expr}{m:List PySem.Expr}:TgtOk G C d sc Γ tg x→TgtsOk G C d sc Γ l m→TgtsOk G C d sc Γ (tg :: l) (x :: m)
inductive ForTgt (G:Gd) (C:Calls) (d:Dp) (sc:Sc) (Γ:Gam):T ⊕ List T→PySem.Expr→Prop
 | one {tg:T}{x:PySem.Expr}:TgtOk G C d sc Γ tg x→ForTgt G C d sc Γ (.inl tg) x
 | many {ts:List T}{xs:List PySem.Expr}{k:Nat}{p:Pos}:TgtsOk G C d sc Γ ts xs→ForTgt G C d sc Γ (.inr ts) (.Tuple xs k p)
theorem assign_Sub {o i:PySem.Expr}{pos':Pos}{v:Value}{Q:Unit→Shared→Prop}{E':Value→Shared→Prop}
  (h:wpAny G.M A (eval o env) (fun ov s₂=>wpAny G.M A (eval i env) (fun iv s₃=>wpAny G.M A (PySem.setItem ov iv v) Q E' s₃) E' s₂) E' s):wpAny G.M A (assign (.Subscript o i pos') env v) Q E' s:=fun Δ p hΔ=>by
 obtain ⟨rl,e⟩:∃ rl:Value→Value→List Value,assign (.Subscript o i pos') env v=(do
   let ov ← holding [v] (eval o env)
   let iv ← holding [v,ov] (eval i env)
   standAt pos'
   holding [v,ov,iv] (PySem.setItem ov iv v)
   release (rl ov iv) []):=⟨_,PySem.assign_Subscript o i pos' v⟩
 simp only [e,Sem.wp_bind',Sem.wp_holding,Sem.wp_cmd_standAt,Sem.wp_release]
 exact Sem.wp_mono _ Δ _ (fun ov p₂ s₂ h₂=>Sem.wp_mono _ Δ _ (fun iv _ s₃ h₃=>h₃ Δ _ hΔ) (fun _ _ _ h'=>h') _ _ (h₂ Δ p₂ hΔ)) (fun _ _ _ h'=>h') _ _ (h Δ _ hΔ)
noncomputable def SimA (G:Gd) (A:Around) (env:Env) (Γ:Gam) (t:Tie) (s:Shared) (tree:Sem Unit) (st':MS) (loc':Loc):Prop :=
 ∀ {Q:Unit→Shared→Prop}{E':Value→Shared→Prop},(∀ t' s',Step (own env) t t' s s'→Rel G t' st' s'→FrOk G A t' env Γ loc' s'→Q () s')→wpAny G.M A tree Q E' s
theorem tgt_go (gi:GamInj Γ) (hA:AOk d A) {tg:T}{x:PySem.Expr} (h:TgtOk G C d sc Γ tg x) (hsc:env.scope.names=sc) (F:FrOk G A t env Γ loc s) (R:Rel G t st s) (r:VRel t s.heap X v) {loc':Loc} (e:setT G.P C tg X loc st=.ok loc' st'):SimA G A env Γ t s (assign x env v) st' loc':=by
 intro Q E' q
 cases h with
 | loc hi hk =>
  simp only [setT] at e
  split at e
  case isFalse=>exact no_stuck e
  cases e
  exact wpAny_assign_Name (store_go F R gi hi (kindOk_real hsc hk) r (q t))
 | item ha hb =>
  obtain ⟨U,s2,e2,e⟩:=Res.bind_ok e
  obtain ⟨W,s3,e3,e⟩:=Res.bind_ok e
  obtain ⟨u,s4,e4,e⟩:=Res.bind_ok e
  cases e
  refine assign_Sub (ha t st s env loc _ _ A hA hsc F R e2 _ _ fun w t2 σ2 S2 R2 r2=>?_)
  have F2:=F.step R S2
  refine hb t2 s2 σ2 env loc _ _ A hA hsc F2 R2 e3 _ _ fun i t3 σ3 S3 R3 r3=>?_
  refine setItem_sound R3 (VRel.step S3 (fun _ z=>z.elim) _ r2) r3 (VRel.step (S2.trans S3) (fun _ z=>z.elim) _ r) e4 _ _ fun _ t4 σ4 S4 R4 _=>?_
  exact q t4 σ4 (((S2.trans S3).trans S4).mono fun _ z=>z.elim) R4 ((F2.step R2 S3).step R3 S4)
theorem tgts_star {ts:List T}{xs:List PySem.Expr} (h:TgtsOk G C d sc Γ ts xs) (env:Env):(assignEach xs env).map (·.2)=xs.map (fun x=>assign x env)∧(assignEach xs env).findIdx? (·.1)=none∧(assignEach xs env).length=ts.length:=by
 induction h with
 | nil=>exact ⟨rfl,rfl,rfl⟩
 | @cons tg l x m h1 h2 ih =>
  have e:assignEach (x :: m) env=(false,assign x env) :: assignEach m env:=by cases h1 <;> rfl
  rw [e]
  exact ⟨by rw [List.map_cons,ih.1]; rfl,by rw [List.findIdx?_cons,ih.2.1]; rfl,by rw [List.length_cons,ih.2.2]; rfl⟩
theorem tgts_go (gi:GamInj Γ) (hA:AOk d A) (hsc:env.scope.names=sc) {ts:List T}{xs:List PySem.Expr} (h:TgtsOk G C d sc Γ ts xs):∀ {Xs:List V}{vs:List Value}{loc loc':Loc}{t:Tie}{st:MS}{s:Shared},FrOk G A t env Γ loc s→Rel G t st s→VRels t s.heap Xs vs→setTs G.P C ts Xs loc st=.ok loc' st' →
  SimA G A env Γ t s (assignInOrder (xs.map fun x=>assign x env) vs) st' loc':=by
 induction h with
 | nil =>
  intro Xs vs loc loc' t st s F R r e Q E' q
  cases Xs with
  | nil=>cases e; cases r; exact assignInOrder_nil (q t s (.refl _ _ _) R F)
  | cons a l=>exact no_stuck e
 | cons h1 h2 ih =>
  intro Xs vs loc loc' t st s F R r e Q E' q
  cases Xs with
  | nil=>exact no_stuck e
  | cons a l =>
   obtain ⟨v,r',rfl,ra,rl⟩:=r
   obtain ⟨l1,s1,e1,e⟩:=Res.bind_ok (show (setT _ _ _ a loc st).bind (fun l' s=>setTs _ _ _ l l' s)=_ from e)
   refine assignInOrder_cons (tgt_go gi hA h1 hsc F R ra e1 fun t1 σ1 S1 R1 F1=>?_)
   exact ih F1 R1 (VRels.step S1 F.ownPv _ rl) e fun t2 σ2 S2 R2 F2=>q t2 σ2 (S1.trans S2) R2 F2
theorem setTs_len {P:Prog}:∀ {ts:List T}{Xs:List V}{loc loc':Loc}{st st':MS},setTs P C ts Xs loc st=.ok loc' st'→ts.length=Xs.length
 | [],[],_,_,_,_,_=>rfl
 | [],_ :: _,_,_,_,_,e=>no_stuck e
 | _ :: _,[],_,_,_,_,e=>no_stuck e
 | a :: l,b :: m,loc,_,st,_,e=>by
  obtain ⟨_,_,_,e⟩:=Res.bind_ok (show (setT P C a b loc st).bind (fun l' s=>setTs P C l m l' s)=_ from e)
  exact congrArg (· + 1) (setTs_len e)
theorem wpAny_assign_ofList {elts:List PySem.Expr}{x1:Nat}{pos:Pos}{t:Addr}{items:Array Value}{Q:Unit→Shared→Prop}{E:Value→Shared→Prop} (hh:A.handled=none) (ht:s.heap.IsList t items)
  (hn:(assignEach elts env).length=items.size) (hstar:(assignEach elts env).findIdx? (·.1)=none)
  (h:∀ h',Heap.ExtBut s.heap.objs.size s.heap h'→wpAny G.M A (assignInOrder ((assignEach elts env).map (·.2)) items.toList) Q E { s with heap:=h' }) :
  wpAny G.M A (assign (.Tuple elts x1 pos) env (.ref t)) Q E s:=by
 rw [arm_assign_Tuple]
 refine wpAny_bind (wpAny_standAt ?_)
 unfold unpack
 rw [hn,hstar]
 exact wpAny_bind (wpAny_holding (kun_itemsOf hh ht h))
theorem unpack_go (hq:d.q=true) (gi:GamInj Γ) (hA:AOk d A) (hsc:env.scope.names=sc) {ts:List T}{xs:List PySem.Expr}{k:Nat}{p:Pos} (h:TgtsOk G C d sc Γ ts xs) (F:FrOk G A t env Γ loc s) (R:Rel G t st s) (r:VRel t s.heap X v) {loc':Loc} (e:unpackV G.P C ts X loc st=.ok loc' st'):SimA G A env Γ t s (assign (.Tuple xs k p) env v) st' loc':=by
 intro Q E' q
 obtain ⟨h1,h2,h3⟩:=tgts_star h env
 have go:∀ {Xs:List V}{vs:Array Value}{h':Heap},VRels t s.heap Xs vs.toList→setTs G.P C ts Xs loc st=.ok loc' st'→Heap.ExtBut s.heap.objs.size s.heap h'→wpAny G.M A (assignInOrder ((assignEach xs env).map (·.2)) vs.toList) Q E' { s with heap:=h' }:=fun {Xs vs h'} rr e hext=>by
  rw [h1]
  have hk:∀ b o,s.heap.get? b=some o→h'.get? b=some o:=fun b o e=>hext b o (fun z=>by rw [z,size_none] at e; exact no_none e) e
  have S0:Step noX t t s { s with heap:=h' }:=Step.grow R hk rfl rfl
  exact tgts_go gi hA hsc h (F.step R S0) (R.grow hk rfl rfl) (VRels.step S0 (fun _ z=>z.elim) _ rr) e fun t2 σ2 S2 R2 F2=>q t2 σ2 ((S0.mono fun _ z=>z.elim).trans S2) R2 F2
 cases X with
 | tup Xs =>
  obtain ⟨a,vs,rfl,io,na,sz,rr⟩:=r
  exact wpAny_assign_Tuple (hA.hd hq) io.isTuple (by rw [h3,setTs_len (show setTs G.P C ts Xs loc st=_ from e),size_of rr]) h2 fun h' hext=>go rr e hext
 | lst Xs =>
  obtain ⟨a,vs,rfl,io,na,sz,rr⟩:=r
  exact wpAny_assign_ofList (hA.hd hq) io.isList (by rw [h3,setTs_len (show setTs G.P C ts Xs loc st=_ from e),size_of rr]) h2 fun h' hext=>go rr e hext
 | _=>exact no_stuck e
theorem Stk.back {t₁:Tie}{h h' h₁:Heap}{pv:Addr→Prop} (K:Stk A t h) (K1:Stk A t₁ h₁) (hs:t.st=t₁.st) (hp:pv=t₁.pv) {l:List Env} (hl:l=t₁.st) (hx:∀ L o,t₁.pv L→h.get? L=some o→h'.get? L=some o):Stk A { t with pv:=pv,st:=l } h' :=
 ⟨by rw [K.fr,hs,hl],fun e he=>by
  have he:e∈t₁.st:=hl ▸ he
  obtain ⟨h1,L,o,h2,h3,h4,h5⟩:=K.ob e (hs ▸ he)
  obtain ⟨-,L',o',g2,g3,-⟩:=K1.ob e he
  rw [h2] at g2; cases g2
  exact ⟨h1,L,o,h2,hp ▸ g3,hx L o g3 h4,h5⟩⟩
theorem FrOk.forget {P L:Addr→Prop}{t₁ t₂:Tie}{s₁ s₂:Shared} (Fg:Forget P L t₁ t₂ s₁ s₂) (F:FrOk G A t₁ env Γ loc s₁) (hp:∀ a,own env a→t₂.pv a) (ho:∀ a o,own env a→s₁.heap.get? a=some o→s₂.heap.get? a=some o) (sk:Stk A t₂ s₂.heap):FrOk G A t₂ env Γ loc s₂:=by
 obtain ⟨m,cm,⟨o,es,ep,hl,r⟩,hcc,hz,hs⟩:=F.ex
 refine ⟨sk,F.fn,F.gl,F.bl,hp _ (.inl rfl),fun n c h=>hp _ (.inr ⟨n,h⟩),F.apart,m,cm,⟨o,es,ep,ho _ _ (.inl rfl) hl,r⟩,fun n c e=>?_,hz,fun i x X e1 e2=>?_⟩
 ·obtain ⟨oc,h1,h2⟩:=hcc n c e
  exact ⟨oc,ho _ _ (.inr ⟨n,e⟩) h1,h2⟩
 ·obtain ⟨v,hv,r⟩:=hs i x X e1 e2
  exact ⟨v,VRel.forget Fg X hv,r⟩
theorem letOwned_tup {elts:List PySem.Expr}{k:Nat}{pos:Pos}{I l T:Addr}{i:Nat}{Q:Unit→Shared→Prop}{E:Value→Shared→Prop} (hit:s.heap.IsTupleIter I l i) (hQ:Q () s) :
  wpAny G.M A (letOwnedTupleGo (.Tuple elts k pos) (.ref I) (.ref T)) Q E s:=by
 obtain ⟨o,ho,hc,hd⟩:=hit
 unfold letOwnedTupleGo
 refine wpAny_bind (wpAny_load ho ?_)
 rw [hc,hd]
 exact wpAny_pure hQ
theorem for_asg (hq:d.q=true) (gi:GamInj Γ) (hA:AOk d A) {ts:T ⊕ List T}{tast:PySem.Expr} (ht:ForTgt G C d sc Γ ts tast) (hsc:env.scope.names=sc) {s1:MS}{range:Bool}{src:V} (hfo:forOk ts range src s1=true) {I:Addr}{i:Nat} (FA:FrOk G A t env Γ loc s) (RA:Rel G t st s) (rv:VRel t s.heap X v)
  (hIA:ItOk G s1 t s I range src i) {loc':Loc} (e2:setTT G.P C ts X loc st=.ok loc' st') {Q':Unit→Shared→Prop}{E':Value→Shared→Prop} (q:∀ t' s',Step (own env) t t' s s'→Rel G t' st' s'→FrOk G A t' env Γ loc' s'→Q' () s') :
  wpAny G.M A (letOwnedTupleGo tast (.ref I) v) (fun _ s'=>wpAny G.M A (assign tast env v) Q' E' s') E' s:=by
 cases ht with
 | one h =>
  have hl:letOwnedTupleGo tast (.ref I) v=pure ():=by cases h <;> rfl
  rw [hl]
  exact wpAny_pure (tgt_go gi hA h hsc FA RA rv e2 q)
 | many h =>
  obtain ⟨hr,hfs⟩:=Bool.and_eq_true_iff.1 (hfo:(!range && (seqOf s1 src).isSome)=true)
  cases range with
  | true=>exact no_ft hr
  | false =>
  cases X with
  | tup Xs =>
   obtain ⟨a',vs,rfl,io⟩:=id rv
   rcases hIA with ⟨kk,l,a,es,r,hli⟩ | ⟨r,dd,a,kvs,ep,rfl,es,_⟩ | ⟨x,St,rfl,_⟩
   ·cases kk with
    | true=>exact wpAny_letOwnedTupleGo_listiter (show Heap.IsListIter _ I a _ from hli) (unpack_go hq gi hA hsc h FA RA rv e2 q)
    | false=>exact letOwned_tup (show Heap.IsTupleIter _ I a _ from hli) (unpack_go hq gi hA hsc h FA RA rv e2 q)
   ·cases hz:seqOf s1 (.ref r) with
    | none=>rw [hz] at hfs; exact no_ft hfs
    | some p=>rw [dictAt_seq hz] at es; exact no_none es
   ·exact no_ft hfs
  | _=>exact no_stuck e2
theorem fl_ok {a b:Fl}{l m:Loc}{s t:MS} (e:Res.ok (a,l) s=Res.ok (b,m) t):a=b∧l=m∧s=t:=by cases e; exact ⟨rfl,rfl,rfl⟩
theorem forLoop_nil_ok {st₀:MS}{range:Bool}{src:V}{tg:V→Loc→MS→Res Loc}{bd:Loc→MS→Res (Fl×Loc)}{l l':Loc}{s s':MS}{fl:Fl} (e:forLoop st₀ range src tg bd [] l s=.ok (fl,l') s'):stays st₀ s range src=true∧.next=fl∧l=l'∧s=s':=by
 rw [forLoop_nil] at e
 obtain ⟨h,e⟩:=if_inv e
 exact ⟨h,fl_ok e⟩
theorem forLoop_cons_ok {st₀:MS}{range:Bool}{src x:V}{xs:List V}{tg:V→Loc→MS→Res Loc}{bd:Loc→MS→Res (Fl×Loc)}{l l':Loc}{s s':MS}{fl:Fl} (e:forLoop st₀ range src tg bd (x :: xs) l s=.ok (fl,l') s') :
  stays st₀ s range src=true∧∃ l2 s2 f3 l3 s3,tg x l s=.ok l2 s2∧bd l2 s2=.ok (f3,l3) s3∧(match f3 with | .next=>forLoop st₀ range src tg bd xs l3 s3 | .ret v=>.ok (.ret v,l3) s3)=.ok (fl,l') s':=by
 rw [forLoop_cons] at e
 obtain ⟨h,e⟩:=if_inv e
 obtain ⟨l2,s2,e2,e⟩:=Res.bnd_ok e
 obtain ⟨⟨f3,l3⟩,s3,e3,e⟩:=Res.bind_ok e
 exact ⟨h,l2,s2,f3,l3,s3,e2,e3,e⟩
inductive FInv (G:Gd) (A:Around) (C:Calls) (t:Tie) (env:Env) (Γ:Gam) (I:Addr) (s0:Shared) (s1:MS) (range:Bool) (src:V) (xs:List V) (ts:T ⊕ List T) (n:Nat) (body:List S) (fl:Fl) (loc':Loc) (st':MS):Nat→Shared→Prop
 | mk (τ:Tie) (σ:Shared) (sti:MS) (locI:Loc) (done rest:List V) (hxs:xs=done ++ rest) (S:Step (fun a=>a=I∨own env a) t τ s0 σ) (R:Rel G τ sti σ) (F:FrOk G A τ env Γ locI σ) (hI:ItOk G s1 τ σ I range src done.length)
   (e:forLoop s1 range src (setTT G.P C ts) (exs G.P C n body) rest locI sti=.ok (fl,loc') st'):FInv G A C t env Γ I s0 s1 range src xs ts n body fl loc' st' rest.length σ
theorem for_turn (hq:d.q=true) (gi:GamInj Γ) {ts:T ⊕ List T}{range:Bool}{body:List S}{tast:PySem.Expr}{m:List Stmt} (ht:ForTgt G C d sc Γ ts tast) (hb:SimB G C d sc Γ n body m) (hA:AOk d A) (hT:TopA A env) (hsc:env.scope.names=sc)
  {I:Addr}{s0 σ:Shared}{s1 sti st':MS}{src:V}{xs done rest:List V}{τ:Tie}{locI loc':Loc}{fl:Fl}{RR:Flow→Shared→Prop}{J:Shared→Prop}{EE:Value→Shared→Prop}
  (hfo:forOk ts range src s1=true) (hx:itemsOf s1 range src=some xs) (nI:¬ own env I) (hpI:t.pv I) (nF0:¬ t.Fr I)
  (hxs:xs=done ++ rest) (S:Step (fun a=>a=I∨own env a) t τ s0 σ) (Rr:Rel G τ sti σ) (Fr:FrOk G A τ env Γ locI σ) (hIt:ItOk G s1 τ σ I range src done.length) (e:forLoop s1 range src (setTT G.P C ts) (exs G.P C n body) rest locI sti=.ok (fl,loc') st')
  (fin:∀ {τ:Tie}{σ5 se:Shared}{f:Flow},Step (fun a=>a=I∨own env a) t τ s0 σ5→Rel G τ st' σ5→FrOk G A τ env Γ loc' σ5→(∀ b o,b≠I→σ5.heap.get? b=some o→se.heap.get? b=some o)→se.gens=σ5.gens→se.os=σ5.os→FlRel τ σ5.heap fl f→RR f se)
  (hJ:∀ m s,m < rest.length→FInv G A C t env Γ I s0 s1 range src xs ts n body fl loc' st' m s→J s) :
  wpAny G.M A (pyNext (.ref I)) (fun r s₁=>match r with
   | none=>wpAny G.M A (execs [] env) (fun f s₃=>RR f s₃) EE s₁
   | some v=>wpAny G.M A (letOwnedTupleGo tast (.ref I) v) (fun _ s₁' =>
     wpAny G.M A (assign tast env v) (fun _ s₂=>wpAny G.M A (execs m env) (fun f s₃=>match f with
      | .next | .cont=>J s₃
      | .brk=>RR .next s₃
      | .ret v=>RR (.ret v) s₃) EE s₂) EE s₁') EE s₁) EE σ:=by
 have pI:τ.pv I:=by rw [S.le.pv]; exact hpI
 have nF:¬ τ.Fr I:=fun f=>nF0 (S.le.fr f)
 cases rest with
 | nil =>
  obtain ⟨hst,e1,e2,e3⟩:=forLoop_nil_ok e
  have hIt':ItOk G s1 τ σ I range src xs.length:=by rw [hxs,List.append_nil]; exact hIt
  refine it_end Rr (hA.hd hq) hx hst hIt' fun h' tk hext=>?_
  exact wpAny_execs_nil (fin S (e3 ▸ Rr) (e2 ▸ Fr) (fun b o nb e=>hext b o nb e) rfl rfl (show FlRel τ σ.heap fl .next from e1 ▸ rfl))
 | cons x0 rest =>
  refine byQ fun Q' k'=>?_
  obtain ⟨hst,l2,s2,f3,l3,s3,e2,e3,e⟩:=forLoop_cons_ok e
  refine k' ?_
  have hi:xs[done.length]?=some x0:=by rw [hxs,List.getElem?_append_right (Nat.le_refl _),Nat.sub_self]; rfl
  refine it_next Rr pI hx hst hIt hi fun v h1 tk1 SA RA rv hIA=>?_
  have xA:∀ a,a=I→τ.pv a:=fun a z=>by rw [z]; exact pI
  have FA:FrOk G A τ env Γ locI { σ with heap:=h1,toks:=tk1 }:=Fr.stepX Rr SA xA (fun z=>nI (.inl z.symm)) (fun nm c hc z=>nI (.inr ⟨nm,by rw [← z]; exact hc⟩)) fun a z=>by rw [z]; exact nF
  have SA':Step (fun a=>a=I∨own env a) τ τ σ { σ with heap:=h1,toks:=tk1 }:=SA.mono fun a z=>.inl z
  refine for_asg hq gi hA ht hsc hfo FA RA rv hIA e2 fun τ4 σ4 S4 R4 F4=>?_
  have S4':Step (fun a=>a=I∨own env a) τ τ4 { σ with heap:=h1,toks:=tk1 } σ4:=S4.mono fun a z=>.inr z
  have hI4:=hIA.step S4 FA.ownPv RA.pv pI nI nF
  have nF4:¬ τ4.Fr I:=fun f=>nF (S4.le.fr f)
  have pI:τ4.pv I:=by rw [S4.le.pv]; exact pI
  refine hb τ4 s2 σ4 env l2 f3 l3 s3 A hA hT hsc F4 R4 e3 _ _ fun f t5 σ5 S5 R5 F5 r5=>?_
  have S5':Step (fun a=>a=I∨own env a) τ4 t5 σ4 σ5:=S5.mono fun a z=>.inr z
  have S05:=((S.trans SA').trans S4').trans S5'
  cases f3 with
  | next =>
   have r5:f=.next:=r5
   subst r5
   refine hJ _ _ (Nat.lt_succ_self _) ⟨t5,_,s3,l3,done ++ [x0],rest,by rw [hxs,List.append_assoc]; rfl,S05,R5,F5,?_,e⟩
   rw [List.length_append]
   exact hI4.step S5 F4.ownPv R4.pv pI nI nF4
  | ret V3 =>
   obtain ⟨u,rfl,ru⟩:=r5
   obtain ⟨q1,q2,q3⟩:=fl_ok e
   exact fin S05 (q3 ▸ R5) (q2 ▸ F5) (fun _ _ _ e=>e) rfl rfl (show FlRel t5 σ5.heap fl (.ret u) from q1 ▸ ⟨u,rfl,ru⟩)
theorem for_fin {I:Addr}{t1:Tie}{σ1 s0 s:Shared}{Q:Flow→Shared→Prop}{loc':Loc}{fl:Fl} (np:∀ a,a=I→σ1.heap.get? a=none) (hk:∀ b o,σ1.heap.get? b=some o→s0.heap.get? b=some o) (hg:s0.gens=σ1.gens) (ho:s0.os=σ1.os) (S1:Step noX t t1 s σ1) (F1:FrOk G A t1 env Γ loc σ1) (nP:∀ a,t1.pv a→¬ a=I) (nI:¬ own env I)
  (k:∀ f t' s',Step (own env) t t' s s'→Rel G t' st' s'→FrOk G A t' env Γ loc' s'→FlRel t' s'.heap fl f→Q f s')
  {τ:Tie}{σ5 se:Shared}{f:Flow} (S:Step (fun a=>a=I∨own env a) (t1.hide fun a=>a=I) τ s0 σ5) (R5:Rel G τ st' σ5) (F5:FrOk G A τ env Γ loc' σ5) (hext:∀ b o,b≠I→σ5.heap.get? b=some o→se.heap.get? b=some o) (hg5:se.gens=σ5.gens) (ho5:se.os=σ5.os) (rf:FlRel τ σ5.heap fl f):Q f se:=by
 have hpv:τ.pv=(t1.hide fun a=>a=I).pv:=S.le.pv
 have Fg:Forget (fun a=>a=I) (own env) τ { τ with pv:=t1.pv,st:=t1.st } σ5 se :=
  ⟨rfl,rfl,fun a q=>⟨by rw [hpv]; exact .inl q,nP a q⟩,fun a q=>by rw [hpv]; exact .inr q,fun a q=>⟨F5.ownPv a q,by
   obtain ⟨o,e⟩:=Option.isSome_iff_exists.mp (R5.live a (.inr (F5.ownPv a q)))
   rw [hext a o (fun z=>nI (z ▸ q)) e]; rfl⟩,fun b o nb _ e=>hext b o nb e,hg5,ho5,rfl⟩
 have S':=Step.unhide (t:=t1) (L:=own env) (fun a q=>q) np hk hg ho S Fg
 refine k f _ se ((S1.mono fun _ z=>z.elim).trans S') (R5.forget Fg) (F5.forget Fg (fun a q=>F1.ownPv a q) (fun a o q e=>hext a o (fun z=>nI (z ▸ q)) e) (F5.sk.back F1.sk S.le.st rfl rfl fun L o q e=>hext L o (fun z=>nP L q z) e)) ?_
 cases fl with
 | next=>exact rf
 | ret X=>obtain ⟨v,q1,q2⟩:=rf; exact ⟨v,q1,VRel.forget Fg _ q2⟩
theorem simS_for (hq:d.q=true) (O:G.Ok N) (gi:GamInj Γ) {ts:T ⊕ List T}{range:Bool}{it:E}{body:List S}{tast iast j:PySem.Expr}{m:List Stmt}{pos:Pos} (ht:ForTgt G C d sc Γ ts tast) (hset:notSet iast=true) (hia:IterAst sc range iast j) (hj:SimE G C d sc Γ it j) (hb:SimB G C d sc Γ n body m) :
  SimS G C d sc Γ n (.for_ ts range it body) (.For tast iast m [] pos):=by
 intro t st s env loc fl loc' st' A hA hT hsc F R e Q E k
 rw [ex_for] at e
 obtain ⟨src,s1,e1,e⟩:=Res.bnd_ok e
 obtain ⟨xs,hx,e⟩:=oLs_inv e
 obtain ⟨hfo,e⟩:=if_inv e
 refine wpAny_For (iter_go O hia hj hA hsc F R e1 hx fun t1 σ1 S1 R1 s0 I hk hI hIl hg ho hit=>?_) (notSet_pure hset env)
 let P:Addr→Prop:=fun a=>a=I
 have np:∀ a,P a→σ1.heap.get? a=none:=fun a z=>by rw [show a=I from z]; exact hI
 have F1:=F.step R S1
 have R0:Rel G (t1.hide P) s1 s0:=R1.hideGrow np hk (fun a z=>by rw [show a=I from z]; exact hIl) hg ho
 have F0:FrOk G A (t1.hide P) env Γ loc s0:=F1.hideGrow np hk hg ho
 have SG:Step noX (t1.hide P) (t1.hide P) σ1 s0:=⟨.refl _,fun a o e _ _ _=>hk a o e,fun a o e _ _ _=>⟨o.slots,hk a o e⟩,fun _ o=>.inl o,fun a o e=>by rw [hk a o e]; rfl,hg,ho⟩
 have I0:ItOk G s1 (t1.hide P) s0 I range src 0:=hit _ _ (fun a r=>VRel.step SG (fun _ z=>z.elim) _ (VRel.hide np _ r)) rfl fun b o e=>e
 have nP:∀ a,t1.pv a→¬ P a:=fun a q z=>by
  have:=R1.live a (.inr q)
  rw [np a z] at this; exact no_ft this
 have nI:¬ own env I:=fun q=>nP I (F1.ownPv I q) rfl
 have nF0:¬ (t1.hide P).Fr I:=F1.sk.fresh hI
 refine codeAny_forLoop_any (FInv G A C (t1.hide P) env Γ I s0 s1 range src xs ts n body fl loc' st') (fun nn σ h=>?_) xs.length ⟨t1.hide P,s0,s1,loc,[],xs,rfl,.refl _ _ _,R0,F0,I0,e⟩
 cases h with
 | mk τ σ sti locI done rest hxs S Rr Fr hIt e=>exact for_turn (t:=t1.hide P) hq gi ht hb hA hT hsc hfo hx nI (.inr rfl) nF0 hxs S Rr Fr hIt e (for_fin np hk hg ho S1 F1 nP nI k) fun m s hm h=>⟨m,hm,h⟩
theorem while_ok {test:Loc→MS→Res V}{bd:Loc→MS→Res (Fl×Loc)}{k:Nat}{l l':Loc}{s s':MS}{fl:Fl} (e:whileLoop test bd (k + 1) l s=.ok (fl,l') s') :
  ∃ b s1,test l s=.ok (.bool b) s1∧(if b then ∃ f3 l3 s3,bd l s1=.ok (f3,l3) s3∧(match f3 with | .next=>whileLoop test bd k l3 s3 | .ret v=>.ok (.ret v,l3) s3)=.ok (fl,l') s' else .next=fl∧l=l'∧s1=s'):=by
 obtain ⟨V1,s1,e1,ea⟩:=Res.bnd_ok e
 obtain ⟨b,s2,e2,eb⟩:=Res.bnd_ok ea
 obtain ⟨rfl,rfl⟩:=truth_ok e2
 refine ⟨b,s2,e1,?_⟩
 cases b with
 | true =>
  obtain ⟨⟨f3,l3⟩,s3,e3,e⟩:=Res.bind_ok eb
  exact ⟨f3,l3,s3,e3,e⟩
 | false=>exact fl_ok eb
inductive WhI (G:Gd) (A:Around) (C:Calls) (t:Tie) (env:Env) (Γ:Gam) (s:Shared) (c:E) (n:Nat) (body:List S) (fl:Fl) (loc':Loc) (st':MS) (k:Nat) (σ:Shared):Prop
 | mk (τ:Tie) (sti:MS) (locI:Loc) (S:Step (own env) t τ s σ) (R:Rel G τ sti σ) (F:FrOk G A τ env Γ locI σ) (e:whileLoop (ev G.P C c) (exs G.P C n body) k locI sti=.ok (fl,loc') st')
theorem while_turn {c:E}{body:List S}{x:PySem.Expr}{m:List Stmt} (hc:SimT G C d sc Γ c x) (hb:SimB G C d sc Γ n body m) (hA:AOk d A) (hT:TopA A env) (hsc:env.scope.names=sc) {fl:Fl}{loc' locI:Loc}{σ:Shared}{τ:Tie}{sti:MS}{k:Nat}{RR:Flow→Shared→Prop}{J:Shared→Prop}{EE:Value→Shared→Prop}
  (S:Step (own env) t τ s σ) (Rr:Rel G τ sti σ) (Fr:FrOk G A τ env Γ locI σ) (e:whileLoop (ev G.P C c) (exs G.P C n body) k locI sti=.ok (fl,loc') st')
  (fin:∀ {f t' s'},Step (own env) t t' s s'→Rel G t' st' s'→FrOk G A t' env Γ loc' s'→FlRel t' s'.heap fl f→RR f s') (hJ:∀ j s',j < k→WhI G A C t env Γ s c n body fl loc' st' j s'→J s') :
  wpAny G.M A (isTrue x env (eval x env)) (fun b s₂ =>
   if b then wpAny G.M A (execs m env) (fun f s₃=>match f with
     | .next | .cont=>J s₃
     | .brk=>RR .next s₃
     | .ret v=>RR (.ret v) s₃) EE s₂
   else wpAny G.M A (execs [] env) (fun f s₃=>RR f s₃) EE s₂) EE σ:=by
 cases k with
 | zero=>exact no_stuck e
 | succ k =>
  obtain ⟨b,s1,e1,e⟩:=while_ok e
  refine hc τ sti σ env locI b _ A hA hsc Fr Rr e1 _ _ fun b' t1 σ1 S1 R1 r1=>?_
  subst r1
  have S1':=S.trans (S1.mono fun _ z=>z.elim)
  have F1:=Fr.step Rr S1
  cases b' with
  | true =>
   obtain ⟨f3,l3,s3,e3,e⟩:=e
   refine hb t1 _ σ1 env locI f3 l3 s3 A hA hT hsc F1 R1 e3 _ _ fun f t5 σ5 S5 R5 F5 r5=>?_
   cases f3 with
   | next =>
    have r5:f=.next:=r5
    subst r5
    exact hJ k σ5 (Nat.lt_succ_self _) ⟨t5,s3,l3,S1'.trans S5,R5,F5,e⟩
   | ret V3 =>
    obtain ⟨u,rfl,ru⟩:=r5
    obtain ⟨q1,q2,q3⟩:=fl_ok e
    exact fin (S1'.trans S5) (q3 ▸ R5) (q2 ▸ F5) (show FlRel t5 σ5.heap fl (.ret u) from q1 ▸ ⟨u,rfl,ru⟩)
  | false =>
   obtain ⟨q1,q2,q3⟩:=e
   exact wpAny_execs_nil (fin S1' (q3 ▸ R1) (q2 ▸ F1) (show FlRel t1 σ1.heap fl .next from q1 ▸ rfl))
theorem simS_while {c:E}{body:List S}{x:PySem.Expr}{m:List Stmt}{pos:Pos} (hc:SimT G C d sc Γ c x) (hb:SimB G C d sc Γ n body m):SimS G C d sc Γ n (.while_ c body) (.While x m [] pos):=by
 intro t st s env loc fl loc' st' A hA hT hsc F R e Q E k
 rw [ex_while] at e
 refine wpAny_While (codeAny_whileLoop (WhI G A C t env Γ s c n body fl loc' st') (fun j σ h=>?_) n ⟨t,st,loc,.refl _ _ _,R,F,e⟩)
 cases h with
 | mk τ sti locI S Rr Fr e=>exact while_turn hc hb hA hT hsc S Rr Fr e (fun S R F r=>k _ _ _ S R F r) fun j s' hj h=>⟨j,hj,h⟩
end
end Mine
end
section
set_option maxRecDepth 100000
namespace Mine
open PySem PySem.W PyProof.Rows
section
variable {G:Gd}{N:Names}{C:Calls}{d:Dp}{sc:Sc}{Γ:Gam}{A:Around}{t:Tie}{st st':MS}{s:Shared}{env:Env}{loc:Loc}{X Y Z:V}{v w:Value}{n:Nat}
end
end Mine
end
section
set_option maxRecDepth 100000
namespace Mine
open PySem PySem.W PyProof.Rows
noncomputable def gam0 (fn:Fn):Gam:=fn.names.map fun x=>if x == Str.empty then none else some x
section
variable {G:Gd}{N:Names}{C:Calls}{d:Dp}{sc:Sc}{Γ:Gam}{A:Around}{t:Tie}{st st':MS}{s:Shared}{env:Env}{loc:Loc}{X Y Z:V}{v w:Value}{n:Nat}
theorem bindL_skip (k:PySem.Str→Option NameKind):∀ (b:List (PySem.Str×Value)) (m:PySem.Str→Option Value) (x:PySem.Str),x ∉ b.map (·.1)→bindL k b m x=m x
 | [],_,_,_=>rfl
 | (y,v) :: r,m,x,h=>by
  simp only [List.map_cons,List.mem_cons,not_or] at h
  rw [bindL,bindL_skip k r _ x h.2]
  split
  ·exact if_neg h.1
  ·rfl
theorem bindC_skip (k:PySem.Str→Option NameKind):∀ (b:List (PySem.Str×Value)) (m:PySem.Str→Option Value) (x:PySem.Str),x ∉ b.map (·.1)→bindC k b m x=m x
 | [],_,_,_=>rfl
 | (y,v) :: r,m,x,h=>by
  simp only [List.map_cons,List.mem_cons,not_or] at h
  rw [bindC,bindC_skip k r _ x h.2]
  split
  ·rfl
  ·exact if_neg h.1
theorem bindL_at (k:PySem.Str→Option NameKind):∀ (b:List (PySem.Str×Value)) (m:PySem.Str→Option Value) (x:PySem.Str) (v:Value),(b.map (·.1)).Nodup→(x,v)∈b→k x=some .local→bindL k b m x=some v
 | (y,u) :: r,m,x,v,nd,h,hk=>by
  rw [List.map_cons,List.nodup_cons] at nd
  rcases List.mem_cons.mp h with e | h
  ·cases e
   rw [bindL,bindL_skip k r _ _ nd.1,if_pos hk]; exact if_pos rfl
  ·rw [bindL]; exact bindL_at k r _ x v nd.2 h hk
theorem bindC_at (k:PySem.Str→Option NameKind):∀ (b:List (PySem.Str×Value)) (m:PySem.Str→Option Value) (x:PySem.Str) (v:Value),(b.map (·.1)).Nodup→(x,v)∈b→k x≠some .local→bindC k b m x=some v
 | (y,u) :: r,m,x,v,nd,h,hk=>by
  rw [List.map_cons,List.nodup_cons] at nd
  rcases List.mem_cons.mp h with e | h
  ·cases e
   rw [bindC,bindC_skip k r _ _ nd.1,if_neg hk]; exact if_pos rfl
  ·rw [bindC]; exact bindC_at k r _ x v nd.2 h hk
theorem cellsFrom_some:∀ (names:Sc) (k:Nat) (acc:List (PySem.Str×Addr)) (x:PySem.Str),names.lookup x=some .cell∨(acc.lookup x).isSome=true→((cellsFrom k names acc).lookup x).isSome=true
 | [],_,_,_,h=>h.resolve_left (fun z=>by exact no_none z)
 | (y,kd) :: r,k,acc,x,h=>by
  rw [cellsFrom]
  split
  ·refine cellsFrom_some r _ _ x ?_
   cases q:x == y with
   | true=>right; rw [List.lookup_cons,q]; rfl
   | false =>
    rw [List.lookup_cons,q] at h
    rw [List.lookup_cons,q]; exact h
  ·rename_i hkd
   refine cellsFrom_some r _ _ x ?_
   cases q:x == y with
   | true =>
    rw [List.lookup_cons,q] at h
    refine .inr (h.resolve_left fun z=>hkd ?_)
    have:kd=.cell:=by simpa using z
    rw [this]; rfl
   | false=>rw [List.lookup_cons,q] at h; exact h
set_option genCtorIdx false in
structure FnHd (G:Gd) (fn:Fn) (a:Addr) (fd:FuncData) (body:List Stmt):Prop where
 ex:∃ o:Obj,G.K.lookup a=some o∧o.data=.func fd∧codeIn G.K fd.code fd.qualname=true∧fd.body=.stmts body∧fd.closure=[]∧fd.globals=mainGlobals∧fd.builtins=builtinsNs ∧
  fd.scope.kind=.function∧fd.scope.isCoroutine=false∧fd.scope.isGenerator=false ∧
  (∀ vals:List Value,vals.length=fn.np→bindArgs fd ⟨vals,[]⟩=pure ((fn.names.take fn.np).zip vals))∧fn.np≤fn.names.length∧(∀ x∈fn.names.take fn.np,kindOk fd.scope.names x=true∧x≠Str.empty)∧(fn.names.take fn.np).Nodup
set_option genCtorIdx false in
structure FnRec (G:Gd) (q:Bool) (PX:Calls→Nat→Prop) (fn:Fn) (a:Addr):Prop where
 ex:∃ (fd:FuncData) (body:List Stmt),FnHd G fn a fd body∧∀ (C:Calls) (n:Nat),PX C n→SimB G C ⟨n,q⟩ fd.scope.names (gam0 fn) n fn.body body
theorem pairwise_lookup {cs:List (PySem.Str×Addr)} (h:cs.Pairwise fun x y=>x.2≠y.2) {n n':PySem.Str}{c:Addr} (h1:cs.lookup n=some c) (h2:cs.lookup n'=some c):n=n':=by
 induction cs with
 | nil=>exact no_none h1
 | cons x r ih =>
  rw [List.pairwise_cons] at h
  rw [List.lookup_cons] at h1 h2
  cases q1:n == x.1 <;> cases q2:n' == x.1 <;> rw [q1] at h1 <;> rw [q2] at h2
  ·exact ih h.2 h1 h2
  ·cases h2; exact absurd rfl (h.1 (n,x.2) (PySem.mem_of_lookup (n:=n) h1))
  ·cases h1; exact absurd rfl (h.1 (n',x.2) (PySem.mem_of_lookup (n:=n') h2))
  ·rw [beq_iff_eq] at q1 q2; rw [q1,q2]
set_option backward.match.sparseCases true in
theorem entry_at (O:G.Ok N) {fn:Fn}{a:Addr}{q:Bool}{fd:FuncData}{body:List Stmt} (hfn:FnHd G fn a fd body) (hA:AC ⟨n + 1,q⟩ A) {Vs:List V}{vals:List Value} (K:Stk A t s.heap) (R:Rel G t st s) (r:VRels t s.heap Vs vals) (hnp:Vs.length=fn.np)
  {B:Result→Shared→Prop}
  (k:∀ (env:Env) (s₁:Shared),env.scope.names=fd.scope.names→env.frame=some env.locals→(∀ b,own env b→s.heap.get? b=none)→(∀ b o,s.heap.get? b=some o→s₁.heap.get? b=some o)→s₁.gens=s.gens→s₁.os=s.os→AOk ⟨n,q⟩ (A.deeper env) →
   FrOk G (A.deeper env) (t.hideS (own env) (env :: t.st)) env (gam0 fn) (Vs.map some ++ List.replicate (fn.names.length - fn.np) none) s₁→Rel G (t.hideS (own env) (env :: t.st)) st s₁ →
   wpAny G.M (A.deeper env) (execs body env) (fun f s'=>B (.ok (.ret (match f with | .ret v=>v | _=>.none))) s') (fun e s'=>wpAny G.M (A.deeper env) (leaving env e) (fun _ s''=>B (.error e) s'') (fun e' s''=>B (.error e') s'') s') s₁) :
  codeAny G.M A (.call (.ref a) ⟨vals,[]⟩) B s:=by
 obtain ⟨o,h1,h2,h3,h4,h5,h6,h7,h8,h9,h10,h11,h12,h13,h14⟩:=hfn.ex
 have XK:=O.K.keeps R.base
 have hlv:vals.length=fn.np:=by rw [r.length]; exact hnp
 have hbn:((fn.names.take fn.np).zip vals).map (·.1)=fn.names.take fn.np:=by
  rw [List.map_fst_zip]; rw [List.length_take,hlv]; exact Nat.min_le_left _ _
 have hkx:∀ x∈(fn.names.take fn.np).zip vals,x.1∈fn.names.take fn.np:=fun x hx=>(List.of_mem_zip (a:=x.1) (b:=x.2) hx).1
 refine codeAny_call_cells (body:=body) (binds:=(fn.names.take fn.np).zip vals) (by have:=hA.dep; lia) (XK _ _ h1) h2 (O.lim.keeps R.base) (codeRec_of XK h3) h4 (h11 vals hlv) h5 (fun x hx=>?_) (fun s₁ x=>?_) h9 h10 h8
 ·have hk:=(h13 x.1 (hkx x hx)).1
  simp only [kindOk,Bool.or_eq_true,beq_iff_eq] at hk
  rcases hk with hk | hk
  ·exact .inl hk
  ·exact .inr ⟨hk,cellsFrom_some _ _ _ _ (.inl hk)⟩
 ·let env:=callEnvC fd s.heap.objs.size a
  have hcells:env.cells=cellsFrom (s.heap.objs.size + 1) fd.scope.names []:=rfl
  have hloc:env.locals=s.heap.objs.size:=rfl
  obtain ⟨h',tk,hs,hk'⟩:=x.done
  let P:Addr→Prop:=own env
  have np:∀ b,P b→s.heap.get? b=none:=by
   rintro b (rfl | ⟨nm,q⟩)
   ·exact size_none _
   ·have hlt:=x.above nm b (PySem.mem_of_lookup q)
    cases z:s.heap.get? b with
    | none=>rfl
    | some ob=>exact absurd (Heap.lt_size z) (Nat.not_lt.mpr (Nat.le_of_lt hlt))
  have hk0:∀ b o,s.heap.get? b=some o→s₁.heap.get? b=some o:=x.toInCall.keep
  have hg:s₁.gens=s.gens:=by rw [hs]
  have ho:s₁.os=s.os:=by rw [hs]
  have hlP:∀ b,P b→(s₁.heap.get? b).isSome=true:=by
   rintro b (rfl | ⟨nm,q⟩)
   ·obtain ⟨ob,_,_,z,_⟩:=x.toInCall.ns; rw [z]; rfl
   ·obtain ⟨ob,z,_⟩:=x.cell nm b q; rw [z]; rfl
  have R0:Rel G (t.hideS P (env :: t.st)) st s₁:=R.hideGrow np hk0 hlP hg ho
  have SG:Step noX (t.hideS P (env :: t.st)) (t.hideS P (env :: t.st)) s s₁:=⟨.refl _,fun a o e _ _ _=>hk0 a o e,fun a o e _ _ _=>⟨o.slots,hk0 a o e⟩,fun _ o=>.inl o,fun a o e=>by rw [hk0 a o e]; rfl,hg,ho⟩
  have hkind:∀ y,env.kindOf y=fd.scope.names.lookup y:=fun _=>rfl
  have K0:Stk (A.deeper env) (t.hideS P (env :: t.st)) s₁.heap:=by
   refine ⟨Around.frames_deeper K.fr,fun e he=>?_⟩
   rcases List.mem_cons.1 he with rfl | he
   ·obtain ⟨ob,es,ep,z1,z2,_⟩:=x.toInCall.ns
    exact ⟨by show fd.scope.kind≠_; rw [h8]; decide,_,ob,rfl,.inr (.inl rfl),z1,fun vs z=>by rw [z2] at z; cases z⟩
   ·obtain ⟨q1,L,o,q2,q3,q4,q5⟩:=K.ob e he
    exact ⟨q1,L,o,q2,.inl q3,hk0 _ _ q4,q5⟩
  have F0:FrOk G (A.deeper env) (t.hideS P (env :: t.st)) env (gam0 fn) (Vs.map some ++ List.replicate (fn.names.length - fn.np) none) s₁:=by
   refine ⟨K0,h8,h6,h7,.inr (.inl rfl),fun nm c q=>.inr (.inr ⟨nm,q⟩),fun nm nm' c q q'=>pairwise_lookup x.apart q q',_,_,x.toInCall.ns,x.cell,fun y hy=>cellsFrom_some _ _ _ _ (.inl hy),fun i y Y e1 e2=>?_⟩
   have hi:i < Vs.length:=by
    by_cases q:i < Vs.length
    ·exact q
    ·rw [List.getElem?_append_right (by rw [List.length_map]; lia)] at e2
     rw [List.getElem?_replicate] at e2
     split at e2 <;> cases e2
   rw [List.getElem?_append_left (by rw [List.length_map]; exact hi),List.getElem?_map] at e2
   obtain ⟨Y',e3,e4⟩:=Option.map_eq_some_iff.mp e2
   cases e4
   obtain ⟨u,u1,u2⟩:=VRels.get r e3
   simp only [gam0,List.getElem?_map,Option.map_eq_some_iff] at e1
   obtain ⟨y',e5,e6⟩:=e1
   have hy:y'=y:=by split at e6 <;> cases e6; rfl
   subst hy
   have e7:(fn.names.take fn.np)[i]?=some y':=by rw [List.getElem?_take,if_pos (by lia)]; exact e5
   have hm:(y',u)∈(fn.names.take fn.np).zip vals:=by
    refine List.mem_iff_getElem?.mpr ⟨i,?_⟩
    rw [List.getElem?_zip_eq_some]; exact ⟨e7,u1⟩
   have hko:=(h13 y' (List.mem_iff_getElem?.mpr ⟨i,e7⟩)).1
   simp only [kindOk,Bool.or_eq_true,beq_iff_eq] at hko
   refine ⟨u,VRel.step SG (fun _ z=>z.elim) _ (VRel.hide np _ u2),?_⟩
   rcases hko with hko | hko
   ·exact .inl ⟨hko,bindL_at _ _ _ _ _ (by rw [hbn]; exact h14) hm hko⟩
   ·exact .inr ⟨hko,bindC_at _ _ _ _ _ (by rw [hbn]; exact h14) hm (by rw [hkind,hko]; decide)⟩
  have hA':AOk ⟨n,q⟩ (A.deeper env):=⟨hA.hd,by have h:A.depth + 2 * (n + 1) + 5≤recursionLimit:=hA.dep; show (A.deeper env).depth + 2 * n + 6≤_; rw [depth_deeper]; lia,by have h:A.units + 20 * (n + 1) + 105≤cLine:=hA.un; show (A.deeper env).units + 20 * n + 110≤_; rw [units_deeper]; lia⟩
  exact k env s₁ rfl rfl np hk0 hg ho hA' F0 R0
theorem entry_go (O:G.Ok N) {fn:Fn}{a:Addr}{q:Bool}{PX:Calls→Nat→Prop} (hfn:FnRec G q PX fn a) (px:PX C n) (hA:AC ⟨n + 1,q⟩ A) {Vs:List V}{vals:List Value} (K:Stk A t s.heap) (R:Rel G t st s) (r:VRels t s.heap Vs vals) (hnp:Vs.length=fn.np)
  {p:Fl×Loc} (e:exs G.P C n fn.body (Vs.map some ++ List.replicate (fn.names.length - fn.np) none) st=.ok p st') {B:Result→Shared→Prop}
  (k:∀ v t' s',Step noX t t' s s'→Rel G t' st' s'→VRel t' s'.heap (match p.1 with | .ret v=>v | .next=>.none) v→B (.ok (.ret v)) s') :
  codeAny G.M A (.call (.ref a) ⟨vals,[]⟩) B s:=by
 obtain ⟨fd,body,hd,h15⟩:=hfn.ex
 refine entry_at O hd hA K R r hnp fun env s₁ hs hf np hk0 hg ho hA' F0 R0=>?_
 refine h15 C n px (t.hideS (own env) (env :: t.st)) st s₁ env _ p.1 p.2 st' (A.deeper env) hA' ⟨_,Around.frames_deeper K.fr,hf⟩ hs F0 R0 e _ _ fun f t' s' S' R' F' rf=>?_
 have hpv:t'.pv=(t.hideS (own env) (env :: t.st)).pv:=S'.le.pv
 have nP:∀ b,t.pv b→¬ own env b:=fun b q z=>by
  have:=R.live b (.inr q)
  rw [np b z] at this; exact no_ft this
 have Fg:Forget (own env) noX t' { t' with pv:=t.pv,st:=t.st } s' s' :=
  ⟨rfl,rfl,fun b q=>⟨by rw [hpv]; exact .inl q,nP b q⟩,fun b q=>by rw [hpv]; exact .inr q,fun b z=>z.elim,fun _ _ _ _ e=>e,rfl,rfl,rfl⟩
 have S'':=Step.unhideS (t:=t) (L:=noX) (l:=env :: t.st) (fun e he=>(List.mem_cons.1 he).elim (fun z=>.inr fun b q=>by rw [z,hf] at q; cases q; exact .inl rfl) .inl) (fun e he=>List.mem_cons_of_mem _ he) (fun b q=>.inl q) np hk0 hg ho S' Fg
 cases hp:p.1 with
 | next =>
  rw [hp] at rf
  have rf:f=.next:=rf
  subst rf
  exact k _ _ _ S'' (R'.forget Fg) (by rw [hp]; rfl)
 | ret X =>
  rw [hp] at rf
  obtain ⟨u,rfl,ru⟩:=rf
  exact k _ _ _ S'' (R'.forget Fg) (by rw [hp]; exact VRel.forget Fg _ ru)
end
end Mine
end
section
set_option maxRecDepth 100000
namespace Mine
open PySem PySem.W PyProof.Rows
section
variable {G:Gd}{N:Names}{C:Calls}{d:Dp}{sc:Sc}{Γ:Gam}{A:Around}{t:Tie}{st st':MS}{s:Shared}{env:Env}{loc:Loc}{X Y Z:V}{v w:Value}
theorem sim_dictC (O:G.Ok N) {kd:Nat}{a:E}{x:PySem.Expr}{np pos:Pos} (hg:glob sc "dict"=true) (hx:isStarred x=false) (ha:SimE G C d sc Γ a x) :
  SimE G C d sc Γ (.dictC kd a) (.Call (.Name "dict" np) [x] [] pos):=by
 intro t st s env loc X st' A hA hsc F R e Q E k
 rw [ev_dictC] at e
 obtain ⟨V,s1,e1,e⟩:=Res.bind_ok e
 cases V with
 | ref r =>
  have e:(match s1.heap r with | some (.dict d)=>if d.length≤1000 then Res.ok (V.ref (kd,s1.cnt kd)) (s1.new kd (.dict d)) else .stuck | _=>.stuck)=.ok X st':=e
  cases hr:s1.heap r with
  | none=>rw [hr] at e; exact no_stuck e
  | some o =>
   rw [hr] at e
   cases o with
   | dict dd =>
    obtain ⟨hz,rfl,rfl⟩:=ite_ok e
    refine wpAny_Call_ofName (built_glob (v:=.type "dict") O F R hsc hg (by decide) (by decide +kernel) ?_)
    have e1':evL G.P C [a] loc st=.ok [.ref r] s1:=by simp [evL_nil,evL_cons,e1,Res.bind]
    refine with_go O (keeps_t _) (l:=[a]) (m:=[x]) (by simp [plainArgs,hx]) rfl (sim_es_cons hx ha sim_es_nil) hA hsc F R e1' fun vs t1 σ1 S1 R1 r1=>?_
    obtain ⟨v,_,rfl,⟨b,rfl,hb⟩,rfl⟩:=r1
    obtain ⟨b',kvs,h1,h2,h3⟩:=R1.objs r _ hr
    obtain rfl:b'=b:=by rw [hb] at h1; cases h1; rfl
    refine kt_call_dict (knd:=strKind G.prog G.w) (beq_eq_false_iff_ne.2 fun z=>R1.sys r (z ▸ h1)) h2 ?_ fun h' hd hs=>?_
    ·rw [h3.length]; exact Nat.le_trans hz (by decide)
    have hk:∀ c o,σ1.heap.get? c=some o→h'.get? c=some o:=fun c o e=>(hs.2 c (fun (z:c=_)=>by rw [z,size_none] at e; exact no_none e)).trans (Heap.get?_push_of_some _ e)
    have S:=Step.bind (k:=kd) (d:=none) (s':={ σ1 with heap:=h' }) R1 hk rfl rfl (size_none _) (fun x e=>by exact no_none e)
    have rho:(t1.bind (kd,s1.cnt kd) σ1.heap.objs.size none).ρ (kd,s1.cnt kd)=some σ1.heap.objs.size:=if_pos rfl
    refine k _ _ _ (S1.trans S) (Rel.bind R1 hk rfl rfl (size_none _) (fun x e=>by exact no_none e) ?_ (R1.size_sys O) ⟨_,kvs,rho,hd,DRel.step S (fun _ q=>q.elim) h3⟩) ⟨_,rfl,rho⟩
    obtain ⟨o,es,ep,ho,_⟩:=hd
    show (Heap.get? h' _).isSome=true
    rw [ho]; rfl
   | _=>exact no_stuck e
 | _=>exact no_stuck e
end
end Mine
end
section
set_option maxRecDepth 100000
namespace Mine
open PySem PySem.W PyProof.Rows
noncomputable def kasChk (n:Nat) (ans:Nat→Nat→Bool) (want:List Nat):KasT (Array Nat)→Bool
 | .ret a=>a.toList == want
 | .ask i j k=>decide (i < n) && (decide (j < n) && (decide (i≠j) && kasChk n ans want (k (ans i j))))
theorem kas_of {n:Nat}{ans:Nat→Nat→Bool}{want:List Nat}{cmp:Nat→Nat→(Bool→Shared→Prop)→Shared→Prop}{s:Shared}{Q:Array Nat→Shared→Prop} (hc:∀ i j,i < n→j < n→i≠j→∀ C:Bool→Shared→Prop,C (ans i j) s→cmp i j C s) (hQ:∀ a:Array Nat,a.toList=want→Q a s) :
  ∀ t:KasT (Array Nat),kasChk n ans want t=true→t.kasWp cmp Q s
 | .ret a,h=>hQ a (eq_of_beq (h:(a.toList == want)=true))
 | .ask i j k,h=>by
  obtain ⟨h1,h⟩:=Bool.and_eq_true_iff.1 (h:(decide (i < n) && (decide (j < n) && (decide (i≠j) && kasChk n ans want (k (ans i j)))))=true)
  obtain ⟨h2,h⟩:=Bool.and_eq_true_iff.1 h
  obtain ⟨h3,h⟩:=Bool.and_eq_true_iff.1 h
  exact hc i j (of_decide_eq_true h1) (of_decide_eq_true h2) (of_decide_eq_true h3) _ (kas_of hc hQ (k (ans i j)) h)
noncomputable def tbl (m pos i j:Nat):Bool:=if i < m then (if j < m then decide (i < j) else decide (i < pos)) else decide (pos≤j)
theorem tbl_ok:∀ m:Fin 5,∀ pos:Fin (m.1 + 2),kasChk (m.1 + 2) (tbl (m.1 + 1) pos.1) (wantL (m.1 + 1) pos.1) (kas_sort (m.1 + 2))=true:=by decide +kernel
section
variable {prog:Program}{w:World}{A:Around}{E:Value→Shared→Prop}{s:Shared}
set_option backward.match.sparseCases true in
theorem sort_go {a:Addr}{vs out:List Value}{n:Nat}{P:PySem.Fin→Shared→Prop} (ho:s.heap.get? a=some (seqObj "list" vs.toArray n)) (h64:vs.length < 64) (hlen:out.length=vs.length) (h1:vs.length < 2→out=vs)
  (h2:2≤vs.length→∀ s':Shared,(∀ b o,b≠a→s.heap.get? b=some o→s'.heap.get? b=some o)→wpAny (model prog w) A (keyKind' vs.toArray) (fun κ s2=>(kas_sort vs.length).kasWp (kas_ask prog w A κ vs) (fun p s3=>s3=s'∧(p.toList.map fun i=>vs.getD i Value.none)=out) s2) E s')
  (k:∀ h' c,(∀ b o,b≠a→s.heap.get? b=some o→h'.get? b=some o)→h'.get? a=some (seqObj "list" out.toArray c)→P (.done (.ret .none)) { s with heap:=h' }) :
  wpAny (model prog w) A (Builtin.«list.sort» ⟨[.ref a],[]⟩) P E s:=by
 have ha:a < s.heap.objs.size:=Heap.lt_size ho
 obtain ⟨e1,ho1⟩:∃ e1,(s.heap.update a (Obj.mapSeq fun _=>(#[]:Array Value))).get? a=some (seqObj "list" #[] e1):=⟨_,get?_update_seq ho fun _=>#[]⟩
 rw [list_sort_plain]
 refine wpAny_bind (listItems_at ho rfl ?_)
 refine wpAny_bind (listUpdate_at ho rfl ?_ (by rw [List.size_toArray,sizeLine_eq]; lia) (Nat.zero_le _))
 refine wpAny_bind (seqEpoch_at ho1 rfl ?_)
 refine wpAny_bind (wpAny_newTuple ?_ (by show vs.length≤_; rw [sizeLine_eq]; lia))
 refine wpAny_bind (wpAny_newList ?_ (Nat.zero_le _))
 refine wpAny_holding ?_
 have kp:∀ b o,(s.heap.update a (Obj.mapSeq fun _=>(#[]:Array Value))).get? b=some o→(((s.heap.update a (Obj.mapSeq fun _=>(#[]:Array Value))).push (seqObj "tuple" vs.toArray 0)).push (seqObj "list" #[] 0)).get? b=some o:=fun b o e=>Heap.get?_push_of_some _ (Heap.get?_push_of_some _ e)
 have old:∀ b o,b≠a→s.heap.get? b=some o→(((s.heap.update a (Obj.mapSeq fun _=>(#[]:Array Value))).push (seqObj "tuple" vs.toArray 0)).push (seqObj "list" #[] 0)).get? b=some o:=fun b o nb e=>kp b o ((Heap.SameBut.update s.heap a _).2 b nb |>.trans e)
 have ho6:=kp a _ ho1
 show wpAny (model prog w) A _ P E { s with heap:=((s.heap.update a (Obj.mapSeq fun _=>(#[]:Array Value))).push (seqObj "tuple" vs.toArray 0)).push (seqObj "list" #[] 0) }
 generalize ((s.heap.update a (Obj.mapSeq fun _=>(#[]:Array Value))).push (seqObj "tuple" vs.toArray 0)).push (seqObj "list" #[] 0)=H at old ho6
 dsimp only
 have hend:∀ {st:SortSt},(arrOf st).map (·.2)=out.toArray→failedOf st=none→wpAny (model prog w) A (do
   let touched:=(← seqEpoch a) != e1
   Builtin.List.listUpdate (.ref a) fun _=>(arrOf st).map (·.2)
   if let some e:=failedOf st then rule "list.sort.comparison-raised"; throw e
   if touched then rule "list.sort.modified"; raiseError "ValueError" "list modified during sort"
   ret .none) P E { s with heap:=H }:=by
  intro st hs hf
  refine wpAny_bind (seqEpoch_at ho6 rfl ?_)
  obtain ⟨c,hc⟩:∃ c,(H.update a (Obj.mapSeq fun _=>out.toArray)).get? a=some (seqObj "list" out.toArray c):=⟨_,get?_update_seq ho6 fun _=>out.toArray⟩
  rw [hs,hf]
  refine wpAny_bind (listUpdate_at ho6 rfl ?_ (Nat.zero_le _) (by rw [List.size_toArray,hlen,sizeLine_eq]; lia))
  simp only [bne_self_eq_false,Bool.false_eq_true,if_false]
  exact wpAny_pure (k _ c (fun b o nb e=>((Heap.SameBut.update H a _).2 b nb).trans (old b o nb e)) hc)
 by_cases hn:vs.toArray.size < 2
 ·rw [if_pos hn,if_pos hn]
  refine wpAny_bind (wpAny_pure ?_)
  rw [StateT.run_pure]
  refine wpAny_bind (wpAny_pure (hend ?_ rfl))
  show ((vs.toArray.zip vs.toArray).map (·.2))=out.toArray
  rw [h1 (by rw [List.size_toArray] at hn; exact hn)]
  apply Array.toList_inj.mp
  simp only [Array.toList_map,Array.toList_zip]
  exact List.map_snd_zip (Nat.le_refl _)
 ·rw [if_neg hn,if_neg hn]
  rw [List.size_toArray] at hn
  refine wpAny_bind (wpAny_mono (h2 (by lia) { s with heap:=H } old) (fun κ s0 hk=>?_) fun _ _ x=>x)
  refine wpAny_bind (wpAny_mono (kat_run (Q:=fun st' s'=>s'={ s with heap:=H }∧(arrOf st').map (·.2)=out.toArray∧failedOf st'=none) rfl (by lia) h64 (fun p' st' s' a1 a2 a3 a4=>⟨a4.1,by rw [kat_snds rfl a2,a4.2],a3⟩) hk) ?_ fun _ _ e=>e)
  rintro ⟨⟨⟩,st'⟩ s' ⟨rfl,hs,hf⟩
  exact hend hs hf
theorem sorted_go {l:Addr}{vs out:List Value}{Q:Value→Shared→Prop} (hl:s.heap.IsList l vs.toArray) (h64:vs.length < 64) (hlen:out.length=vs.length) (h1:vs.length < 2→out=vs)
  (h2:2≤vs.length→∀ (A':Around) (s':Shared) (E':Value→Shared→Prop),(∀ b o,s.heap.get? b=some o→s'.heap.get? b=some o)→wpAny (model prog w) A' (keyKind' vs.toArray) (fun κ s2=>(kas_sort vs.length).kasWp (kas_ask prog w A' κ vs) (fun p s3=>s3=s'∧(p.toList.map fun i=>vs.getD i Value.none)=out) s2) E' s')
  (k:∀ h' c,(∀ b o,s.heap.get? b=some o→h'.get? b=some o)→h'.get? (s.heap.objs.size + 1)=some (seqObj "list" out.toArray c)→Q (.ref (s.heap.objs.size + 1)) { s with heap:=h' }) :
  wpAny (model prog w) A (call (.builtin "sorted") [.ref l]) Q E s:=by
 refine Calls.call_function_entry kind_sorted plain_sorted entry_sorted (args_sorted1 _) ?_
 unfold Builtin.«sorted»
 refine wpAny_bind (m:=checkCount "sorted" 1 1 _) (wpAny_pure ?_)
 refine wpAny_bind (collect_list hl ?_ (by rw [sizeLine_eq]; lia))
 refine wpAny_bind (wpAny_newList ?_ (by rw [sizeLine_eq]; lia))
 have hsz:((s.heap.push (seqObj "list" #[] 0)).update s.heap.objs.size (Obj.mapSeq (· ++ vs.toArray))).objs.size=s.heap.objs.size + 1:=by
  rw [Heap.size_update,size_push']
 have hoL:(((s.heap.push (seqObj "list" #[] 0)).update s.heap.objs.size (Obj.mapSeq (· ++ vs.toArray))).push (seqObj "list" vs.toArray 0)).get? (s.heap.objs.size + 1)=some (seqObj "list" vs.toArray 0):=by
  rw [← hsz]; exact Heap.get?_push_size _ rfl
 have keep:∀ b o,s.heap.get? b=some o→(((s.heap.push (seqObj "list" #[] 0)).update s.heap.objs.size (Obj.mapSeq (· ++ vs.toArray))).push (seqObj "list" vs.toArray 0)).get? b=some o:=fun b o q=>by
  have hlt:b < s.heap.objs.size:=Heap.lt_size q
  rw [Heap.get?_push_ne _ _ _ (by rw [hsz]; exact Nat.ne_of_lt (Nat.lt_succ_of_lt hlt)),Heap.get?_update_ne _ _ _ _ (Nat.ne_of_lt hlt),Heap.get?_push_ne _ _ _ (Nat.ne_of_lt hlt)]
  exact q
 show wpAny _ _ _ _ _ { s with heap:=((s.heap.push (seqObj "list" #[] 0)).update s.heap.objs.size (Obj.mapSeq (· ++ vs.toArray))).push (seqObj "list" vs.toArray 0) }
 rw [hsz]
 have up:∀ (h':Heap),(∀ b o,b≠s.heap.objs.size + 1→(((s.heap.push (seqObj "list" #[] 0)).update s.heap.objs.size (Obj.mapSeq (· ++ vs.toArray))).push (seqObj "list" vs.toArray 0)).get? b=some o→h'.get? b=some o)→∀ b o,s.heap.get? b=some o→h'.get? b=some o:=fun h' q b o e=>q b o (Nat.ne_of_lt (Nat.lt_succ_of_lt (Heap.lt_size e))) (keep b o e)
 refine wpAny_bind (wpAny_holding (wpAny_call_entry slot_list_sort ⟨_,hoL,rfl⟩ entry_list_sort ?_ (args_list_sort _)))
 refine sort_go (s:={ s with heap:=((s.heap.push (seqObj "list" #[] 0)).update s.heap.objs.size (Obj.mapSeq (· ++ vs.toArray))).push (seqObj "list" vs.toArray 0) }) hoL h64 hlen h1 (fun hn s' q=>h2 hn _ s' _ (up s'.heap q)) fun h' c q ho=>?_
 exact ⟨_,rfl,wpAny_pure ⟨_,rfl,k h' c (up h' q) ho⟩⟩
end
theorem rising_at:∀ {ks:List Int},rising ks=true→∀ i j:Nat,i < j→∀ a b,ks[i]?=some a→ks[j]?=some b→a < b
 | [],_,i,j,_,a,b,e,_=>by exact no_none e
 | [_],_,i,j,hij,a,b,_,e=>by
  cases j with
  | zero=>lia
  | succ j=>exact no_none e
 | x :: y :: r,h,i,j,hij,a,b,e1,e2=>by
  obtain ⟨h1,h2⟩:=Bool.and_eq_true_iff.1 (h:(decide (x < y) && rising (y :: r))=true)
  have h1:x < y:=of_decide_eq_true h1
  cases j with
  | zero=>lia
  | succ j =>
   cases i with
   | succ i=>exact rising_at h2 i j (by lia) a b e1 e2
   | zero =>
    cases e1
    cases j with
    | zero=>cases e2; exact h1
    | succ j=>exact Int.lt_trans h1 (rising_at h2 0 (j + 1) (by lia) y b rfl e2)
theorem pos_at (x:Int):∀ {ks:List Int},rising ks=true→x ∉ ks→posOf x ks≤ks.length∧∀ (i:Nat) (a:Int),ks[i]?=some a→(i < posOf x ks→a < x)∧(posOf x ks≤i→x < a)
 | [],_,_=>⟨Nat.le_refl _,fun i a e=>by cases e⟩
 | k :: r,h,hx=>by
  have hr:rising r=true:=by
   cases r with
   | nil=>rfl
   | cons y r=>exact (Bool.and_eq_true_iff.1 (h:(decide (k < y) && rising (y :: r))=true)).2
  obtain ⟨h1,h2⟩:=pos_at x hr fun q=>hx (List.mem_cons_of_mem _ q)
  rw [posOf]
  split
  ·rename_i hlt
   refine ⟨Nat.zero_le _,fun i a e=>⟨fun q=>absurd q (Nat.not_lt_zero _),fun _=>?_⟩⟩
   cases i with
   | zero=>cases e; exact hlt
   | succ i=>exact Int.lt_trans hlt (rising_at h 0 (i + 1) (by lia) k a rfl e)
  ·rename_i hlt
   have hne:k≠x:=fun q=>hx (q ▸ List.mem_cons_self ..)
   refine ⟨Nat.succ_le_succ h1,fun i a e=>?_⟩
   cases i with
   | zero=>cases e; exact ⟨fun _=>by lia,fun q=>by lia⟩
   | succ i=>exact ⟨fun q=>(h2 i a e).1 (by lia),fun q=>(h2 i a e).2 (by lia)⟩
theorem tbl_lt {ks:List Int}{x:Int} (hr:rising ks=true) (hx:x ∉ ks) {i j:Nat} (hij:i≠j) {a b:Int} (ha:(ks ++ [x])[i]?=some a) (hb:(ks ++ [x])[j]?=some b):decide (a < b)=tbl ks.length (posOf x ks) i j:=by
 obtain ⟨hp,hpos⟩:=pos_at x hr hx
 have last:∀ {i:Nat}{a:Int},¬ i < ks.length→(ks ++ [x])[i]?=some a→i=ks.length∧a=x:=fun {i a} hn e=>by
  rw [List.getElem?_append_right (by lia)] at e
  have:i - ks.length=0:=by
   cases hz:i - ks.length with
   | zero=>rfl
   | succ m=>rw [hz] at e; exact no_none e
  rw [this] at e; cases e; exact ⟨by lia,rfl⟩
 unfold tbl
 by_cases hi:i < ks.length
 ·rw [if_pos hi]
  rw [List.getElem?_append_left hi] at ha
  by_cases hj:j < ks.length
  ·rw [if_pos hj]
   rw [List.getElem?_append_left hj] at hb
   by_cases h:i < j
   ·rw [decide_eq_true h,decide_eq_true (rising_at hr i j h a b ha hb)]
   ·have:=rising_at hr j i (by lia) b a hb ha
    rw [decide_eq_false h,decide_eq_false (by lia)]
  ·obtain ⟨_,rfl⟩:=last hj hb
   rw [if_neg hj]
   by_cases h:i < posOf b ks
   ·rw [decide_eq_true h,decide_eq_true ((hpos i a ha).1 h)]
   ·have:=(hpos i a ha).2 (by lia)
    rw [decide_eq_false h,decide_eq_false (by lia)]
 ·obtain ⟨hi2,rfl⟩:=last hi ha
  rw [if_neg hi]
  have hj:j < ks.length:=by
   have:j < (ks ++ [a]).length:=by
    rw [List.getElem?_eq_some_iff] at hb; exact hb.1
   rw [List.length_append] at this
   have:j < ks.length + 1:=this
   lia
  rw [List.getElem?_append_left hj] at hb
  by_cases h:posOf a ks≤j
  ·rw [decide_eq_true h,decide_eq_true ((hpos j b hb).2 h)]
  ·have:=(hpos j b hb).1 (by lia)
   rw [decide_eq_false h,decide_eq_false (by lia)]
section
variable {G:Gd}{N:Names}{C:Calls}{d:Dp}{sc:Sc}{Γ:Gam}{A:Around}{t:Tie}{st st':MS}{s:Shared}{env:Env}{loc:Loc}{X Y Z:V}{v w:Value}
theorem mapM_inv {x:V}{l:List V}{ks:List Int} (e:(x :: l).mapM firstInt=some ks):∃ k ks',firstInt x=some k∧l.mapM firstInt=some ks'∧ks=k :: ks':=by
 rw [List.mapM_cons] at e
 cases hx:firstInt x with
 | none=>rw [hx] at e; exact no_none e
 | some k =>
  rw [hx] at e
  cases hm:l.mapM firstInt with
  | none=>rw [hm] at e; exact no_none e
  | some ks'=>rw [hm] at e; cases e; exact ⟨k,ks',rfl,rfl,rfl⟩
theorem mapM_len:∀ {l:List V}{ks:List Int},l.mapM firstInt=some ks→l.length=ks.length
 | [],_,e=>by cases e; rfl
 | _ :: _,_,e=>by obtain ⟨k,ks',_,h,rfl⟩:=mapM_inv e; exact congrArg Nat.succ (mapM_len h)
theorem first_inv {x:V}{k:Int} (e:firstInt x=some k):∃ m,x=.tup (.int k :: m):=by
 cases x with
 | tup m=>cases m with
  | nil=>exact no_none e
  | cons y m=>cases y with
   | int k'=>cases e; exact ⟨m,rfl⟩
   | _=>exact no_none e
 | _=>exact no_none e
theorem first_real {h:Heap}{k:Int}{m:List V} (a:VRel t h (.tup (.int k :: m)) v):∃ tk ad us n,v=.ref ad∧h.get? ad=some { cls:=.type "tuple",data:=.seq us n }∧us[0]?=some (.int k tk):=by
 obtain ⟨ad,us,hv,⟨n,ho⟩,_,_,u,us',hus,⟨tk,hu⟩,_⟩:=a
 exact ⟨tk,ad,us,n,hv,ho,by rw [← Array.getElem?_toList,hus,hu]; rfl⟩
theorem firsts_real {h:Heap}:∀ {l:List V}{vs:List Value}{ks:List Int},l.mapM firstInt=some ks→VRels t h l vs→∃ fs,KatTups h vs fs∧fs.length=ks.length∧∀ (i:Nat) (k:Int),ks[i]?=some k→∃ tk,fs[i]?=some (.int k tk)
 | [],_,ks,e,r=>by cases e; cases r; exact ⟨[],trivial,rfl,fun i k e=>no_none e⟩
 | x :: l,_,ks,e,⟨v,r,e0,a,b⟩=>by
  obtain ⟨k,ks',hx,hm,rfl⟩:=mapM_inv e
  obtain ⟨fs,h1,h2,h3⟩:=firsts_real hm b
  obtain ⟨m,rfl⟩:=first_inv hx
  obtain ⟨tk,ad,us,n,hv,ho,h0⟩:=first_real a
  rw [e0]
  refine ⟨.int k tk :: fs,⟨⟨ad,_,us,n,hv,ho,rfl,rfl,h0⟩,h1⟩,congrArg Nat.succ h2,fun i k' e=>?_⟩
  cases i with
  | zero=>cases e; exact ⟨tk,rfl⟩
  | succ i=>exact h3 i k' e
theorem tups_at {h:Heap}:∀ {vs fs:List Value},KatTups h vs fs→∀ (i:Nat) (f:Value),fs[i]?=some f→∃ a o xs n,vs[i]?=some (.ref a)∧h.get? a=some o∧o.data=.seq xs n∧xs[0]?=some f
 | [],[],_,i,f,e=>no_none e
 | [],_ :: _,k,_,_,_=>False.elim k
 | _ :: _,[],k,_,_,_=>False.elim k
 | v :: vs,g :: fs,k,i,f,e=>by
  cases i with
  | zero =>
   obtain ⟨⟨a,o,xs,n,hv,h1,h2,h3,h4⟩,_⟩:=k
   cases e
   exact ⟨a,o,xs,n,congrArg some hv,h1,h3,h4⟩
  | succ i=>exact tups_at k.2 i f e
theorem tups_keep {h h':Heap} (k:∀ b o,h.get? b=some o→h'.get? b=some o):∀ {vs fs:List Value},KatTups h vs fs→KatTups h' vs fs
 | [],[],_=>trivial
 | v :: vs,g :: fs,⟨⟨a,o,xs,n,e,h1,r⟩,q⟩=>⟨⟨a,o,xs,n,e,k a o h1,r⟩,tups_keep k q⟩
theorem VRels.getD {h:Heap}:∀ {l:List V}{vs:List Value} (i:Nat),i < l.length→VRels t h l vs→VRel t h (l.getD i .none) (vs.getD i .none)
 | [],_,i,hi,_=>absurd hi (Nat.not_lt_zero _)
 | x :: l,_,0,_,⟨v,r,rfl,a,b⟩=>a
 | x :: l,_,i + 1,hi,⟨v,r,rfl,a,b⟩=>VRels.getD i (Nat.lt_of_succ_lt_succ hi) b
theorem VRels.pick {h:Heap}{l:List V}{vs:List Value} (r:VRels t h l vs):∀ p:List Nat,(∀ i∈p,i < l.length)→VRels t h (p.map fun i=>l.getD i .none) (p.map fun i=>vs.getD i .none)
 | [],_=>rfl
 | i :: p,hp=>⟨_,_,rfl,VRels.getD i (hp i (List.mem_cons_self ..)) r,VRels.pick r p fun j hj=>hp j (List.mem_cons_of_mem _ hj)⟩
theorem if_ok' {α:Type}{c:Bool}{a b:α} (h:(if c=true then some a else none)=some b):c=true∧a=b:=by
 cases c with
 | true=>cases h; exact ⟨rfl,rfl⟩
 | false=>exact no_none h
theorem tbl_tot {m pos i j:Nat} (hi:i≤m) (hj:j≤m) (hij:i≠j):tbl m pos i j=true∨tbl m pos j i=true:=by
 unfold tbl
 by_cases h1:i < m
 ·by_cases h2:j < m
  ·rw [if_pos h1,if_pos h2,if_pos h2,if_pos h1]
   rcases Nat.lt_or_gt_of_ne hij with h | h
   ·exact .inl (decide_eq_true h)
   ·exact .inr (decide_eq_true h)
  ·rw [if_pos h1,if_neg h2,if_neg h2]
   rcases Nat.lt_or_ge i pos with h | h
   ·exact .inl (decide_eq_true h)
   ·exact .inr (decide_eq_true h)
 ·have h2:j < m:=by lia
  rw [if_neg h1,if_pos h2,if_neg h1]
  rcases Nat.lt_or_ge j pos with h | h
  ·exact .inr (decide_eq_true h)
  ·exact .inl (decide_eq_true h)
theorem sortedLast_spec {l m:List V} (e:sortedLast l=some m):(l=[]∧m=[])∨∃ ks x,l.mapM firstInt=some (ks ++ [x])∧rising ks=true∧x ∉ ks∧l.length=ks.length + 1∧ks.length≤5∧m=(wantL ks.length (posOf x ks)).map fun i=>l.getD i .none:=by
 cases hr:l.reverse with
 | nil =>
  have hl:l=[]:=by rw [← List.reverse_reverse l,hr]; rfl
  rw [sortedLast,hr] at e
  cases e; exact .inl ⟨hl,rfl⟩
 | cons y r =>
  have hl:l=r.reverse ++ [y]:=by rw [← List.reverse_reverse l,hr,List.reverse_cons]
  rw [sortedLast,hr] at e
  have e:(match firstInt y,(r.reverse).mapM firstInt with
   | some x,some ks=>if (rising ks && !ks.contains x && decide (l.length≤6))=true then some ((wantL ks.length (posOf x ks)).map fun i=>l.getD i .none) else none
   | _,_=>none)=some m:=e
  cases h1:firstInt y with
  | none=>rw [h1] at e; exact no_none e
  | some x =>
   cases h2:(r.reverse).mapM firstInt with
   | none=>rw [h1,h2] at e; exact no_none e
   | some ks =>
    rw [h1,h2] at e
    have e:(if (rising ks && !ks.contains x && decide (l.length≤6))=true then some ((wantL ks.length (posOf x ks)).map fun i=>l.getD i .none) else none)=some m:=e
    obtain ⟨hc,e⟩:=if_ok' e
    obtain ⟨hc,q3⟩:=Bool.and_eq_true_iff.1 hc
    obtain ⟨q1,q2⟩:=Bool.and_eq_true_iff.1 hc
    have hn:l.length=ks.length + 1:=by rw [hl,List.length_append,mapM_len h2]; rfl
    refine .inr ⟨ks,x,?_,q1,fun q=>?_,hn,by have:=of_decide_eq_true q3; lia,e.symm⟩
    ·rw [hl,List.mapM_append,h2,List.mapM_cons,h1]; rfl
    ·rw [List.contains_iff_mem.2 q] at q2; exact no_ft q2
theorem want_lt {m pos:Nat} (h:pos≤m):(wantL m pos).length=m + 1∧∀ i∈wantL m pos,i < m + 1:=by
 refine ⟨by rw [wantL,List.length_append,List.length_cons,List.length_map,List.length_range,List.length_range]; lia,fun i hi=>?_⟩
 rcases List.mem_append.1 hi with hi | hi
 ·have:=List.mem_range.1 hi; lia
 ·rcases List.mem_cons.1 hi with hi | hi
  ·lia
  ·obtain ⟨j,hj,rfl⟩:=List.mem_map.1 hi
   have:=List.mem_range.1 hj; lia
theorem tbl_at:∀ {n pos:Nat},1≤n→n≤5→pos≤n→kasChk (n + 1) (tbl n pos) (wantL n pos) (kas_sort (n + 1))=true
 | 0,_,h,_,_=>absurd h (Nat.not_succ_le_zero 0)
 | m + 1,pos,_,h5,hp=>tbl_ok ⟨m,h5⟩ ⟨pos,Nat.lt_succ_of_le hp⟩
theorem keys_ne {ks:List Int}{x:Int} (hr:rising ks=true) (hx:x ∉ ks) {i j:Nat} (hi:i < (ks ++ [x]).length) (hj:j < (ks ++ [x]).length) (hij:i≠j):((ks ++ [x])[i] == (ks ++ [x])[j])=false:=by
 rw [beq_eq_false_iff_ne]
 intro z
 have h1:=tbl_lt hr hx hij (List.getElem?_eq_getElem hi) (List.getElem?_eq_getElem hj)
 have h2:=tbl_lt hr hx (Ne.symm hij) (List.getElem?_eq_getElem hj) (List.getElem?_eq_getElem hi)
 rw [z,decide_eq_false (Int.lt_irrefl _)] at h1 h2
 rw [List.length_append] at hi hj
 rcases tbl_tot (m:=ks.length) (pos:=posOf x ks) (Nat.le_of_lt_succ hi) (Nat.le_of_lt_succ hj) hij with h | h
 ·rw [h] at h1; exact no_ft h1
 ·rw [h] at h2; exact no_ft h2
theorem zip_first {xs ys:Array Value}{a b:Value} (h1:xs[0]?=some a) (h2:ys[0]?=some b):∃ r,xs.toList.zip ys.toList=(a,b) :: r:=by
 rw [← Array.getElem?_toList] at h1 h2
 cases hxs:xs.toList with
 | nil=>rw [hxs] at h1; exact no_none h1
 | cons a r=>cases hys:ys.toList with
  | nil=>rw [hys] at h2; exact no_none h2
  | cons b r'=>rw [hxs] at h1; rw [hys] at h2; cases h1; cases h2; exact ⟨_,rfl⟩
theorem one_getD {vs:List Value} (h:vs.length=1):[vs.getD 0 .none]=vs:=by
 obtain ⟨y,rfl⟩:=List.length_eq_one_iff.1 h; rfl
theorem sort_end {m:List V}{out:List Value}{Q:Value→Shared→Prop} (R:Rel G t st s) (q:∀ v t' s',Step noX t t' s s'→Rel G t' st s'→vrel (.lst m) t' s' v→Q v s') (ro:VRels t s.heap m out) (hm:m.length≤sizeMax)
  (h':Heap) (c:Nat) (hk:∀ b o,s.heap.get? b=some o→h'.get? b=some o) (ho:h'.get? (s.heap.objs.size + 1)=some (seqObj "list" out.toArray c)):Q (.ref (s.heap.objs.size + 1)) { s with heap:=h' }:=by
 have S:Step noX t t s { s with heap:=h' }:=Step.grow R hk rfl rfl
 exact q _ t _ S (R.grow hk rfl rfl) ⟨_,out.toArray,rfl,⟨c,ho⟩,R.fresh (size_none1 _),hm,VRels.step S (fun _ z=>z.elim) _ ro⟩
theorem sorted_sound (R:Rel G t st s) {l m:List V} (r:VRel t s.heap (.lst l) v) (e:sortedLast l=some m):Sim G A t s (call (.builtin "sorted") [v]) st (vrel (.lst m)):=by
 obtain ⟨a,vs,rfl,io,na,sz,rr⟩:=r
 have hvl:vs.toList.length=l.length:=rr.length
 have hlst:s.heap.IsList a vs.toList.toArray:=by rw [Array.toArray_toList]; exact io.isList
 intro Q E q
 rcases sortedLast_spec e with ⟨rfl,rfl⟩ | ⟨ks,x,hm,hr,hx,hln,h5,rfl⟩
 ·have h0:vs.toList=[]:=List.length_eq_zero_iff.1 hvl
  exact sorted_go (out:=[]) hlst (by rw [h0]; decide) (by rw [h0]) (fun _=>h0.symm) (fun h=>by rw [h0] at h; exact absurd h (by decide)) (sort_end R q rfl (Nat.zero_le _))
 ·obtain ⟨hp,-⟩:=pos_at x hr hx
  obtain ⟨w1,w2⟩:=want_lt hp
  obtain ⟨fs,k1,k2,k3⟩:=firsts_real hm rr
  have hk0:(ks ++ [x]).length=ks.length + 1:=List.length_append
  have hvn:vs.toList.length=ks.length + 1:=hvl.trans hln
  have h6:ks.length + 1≤6:=Nat.succ_le_succ h5
  refine sorted_go (out:=(wantL ks.length (posOf x ks)).map fun i=>vs.toList.getD i .none) hlst (by rw [hvn]; exact Nat.lt_of_le_of_lt h6 (by decide)) (by rw [List.length_map,w1,hvn]) (fun h=>?_) (fun h2 A' s' E' hk=>?_) (sort_end R q (VRels.pick rr _ fun i hi=>by rw [hln]; exact w2 i hi) (by rw [List.length_map,w1]; exact Nat.le_trans h6 (by decide)))
  ·rw [hvn] at h
   cases List.length_eq_zero_iff.1 (Nat.lt_one_iff.1 (Nat.lt_of_succ_lt_succ h))
   exact one_getD hvn
  ·refine kat_kind (T:=.type "int") (tups_keep hk k1) (by rw [k2,hk0]; exact Nat.succ_pos _) (fun f hf=>?_) rfl ?_
   ·obtain ⟨i,hi,rfl⟩:=List.mem_iff_getElem.1 hf
    rw [k2] at hi
    obtain ⟨tk,q1⟩:=k3 i _ (List.getElem?_eq_getElem hi)
    rw [List.getElem?_eq_getElem (by rw [k2]; exact hi)] at q1
    rw [Option.some.inj q1]
    exact Looks.of_pure rfl
   ·rw [hvn] at h2 ⊢
    refine kas_of (n:=ks.length + 1) (fun i j hi hj hij C hC=>?_) (fun a ha=>⟨rfl,by rw [ha]⟩) _ (tbl_at (Nat.le_of_succ_le_succ h2) h5 hp)
    rw [← hk0] at hi hj
    obtain ⟨ti,f1⟩:=k3 i _ (List.getElem?_eq_getElem hi)
    obtain ⟨tj,f2⟩:=k3 j _ (List.getElem?_eq_getElem hj)
    obtain ⟨ai,oi,xs,ni,g1,g2,g3,g4⟩:=tups_at (tups_keep hk k1) i _ f1
    obtain ⟨aj,oj,ys,nj,h1,h2,h3,h4⟩:=tups_at (tups_keep hk k1) j _ f2
    unfold kas_ask
    rw [List.getD_eq_getElem?_getD,List.getD_eq_getElem?_getD,g1,h1]
    obtain ⟨rest,hz⟩:=zip_first g4 h4
    refine kat_lt g2 g3 h2 h3 ?_
    rw [hz]
    refine kat_cons (wpAny_eqBool_int ?_)
    rw [keys_ne hr hx hi hj hij]
    exact kat_no (oneLt_int (by rw [tbl_lt hr hx hij (List.getElem?_eq_getElem hi) (List.getElem?_eq_getElem hj)]; exact hC))
theorem sim_primA (hq:d.q=true) (O:G.Ok N) {p:Prim}{l:List E}{m:List PySem.Expr}{np pos:Pos} (hg:glob sc (primName p)=true) (hm:plainArgs m=true) (hlm:l.length=m.length) (hl:SimEs G C d sc Γ l m) :
  SimE G C d sc Γ (.prim p l) (.Call (.Name (primName p) np) m [] pos):=by
 cases hp:primOk p with
 | true=>exact sim_prim hq O hp hg hm hlm hl
 | false =>
  obtain rfl:p=.sorted:=by cases p <;> first | rfl | exact no_tf hp
  intro t st s env loc X st' A hA hsc F R e Q E k
  rw [ev_prim] at e
  obtain ⟨Vs,s1,e1,e⟩:=Res.bind_ok e
  refine wpAny_Call_ofName (built_glob (v:=.builtin "sorted") O F R hsc hg (prim_in .sorted) (by decide +kernel) ?_)
  refine with_go O (keeps_b _) hm hlm hl hA hsc F R e1 fun vs t1 σ1 S1 R1 r1=>?_
  cases Vs with
  | nil=>exact no_stuck e
  | cons V Vs=>cases Vs with
   | nil =>
    obtain ⟨v,_,rfl,r1,rfl⟩:=r1
    obtain ⟨l,rfl,e⟩:=lst_inv e
    obtain ⟨m,hs,e⟩:=oLs_inv e
    obtain ⟨rfl,rfl⟩:=ok_inv e
    exact sorted_sound R1 r1 hs _ _ fun v t2 σ2 S2 R2 r2=>k v t2 σ2 (S1.trans S2) R2 r2
   | cons W Vs=>cases Vs <;> exact no_stuck e
end
end Mine
end
section
namespace Mine
end Mine
end
section
namespace Mine
open PySem PySem.W PyProof.Rows
section
variable {G:Gd}{N:Names}{C:Calls}{d:Dp}{sc:Sc}{Γ:Gam}{A:Around}{t t':Tie}{st st':MS}{s:Shared}{env:Env}{loc:Loc}{X Y Z:V}{v w:Value}{n:Nat}{h:Heap}
theorem Stk.framesL (K:Stk A t h) {base:Heap} (hb:∀ L,t.Fr L→base.get? L=none):∀ l:List Env,(∀ e,e∈l→e∈t.st)→h.FunFrames base l
 | [],_=>trivial
 | e :: r,hs=>by
  obtain ⟨h1,L,o,h2,h3,h4,h5⟩:=K.ob e (hs e (.head _))
  exact ⟨h1,⟨L,o,h2,hb L ⟨h3,e,hs e (.head _),h2⟩,h4,h5⟩,K.framesL hb r fun e he=>hs e (.tail _ he)⟩
theorem Stk.nf (K:Stk A t h) {a:Addr}{o:Obj} (f:t.Fr a) (e:h.get? a=some o):∀ vs,o.data≠.fields vs:=by
 obtain ⟨-,e',h1,h2⟩:=f
 obtain ⟨-,L,o',h3,-,h4,h5⟩:=K.ob e' h1
 rw [h3] at h2; cases h2
 rw [e] at h4; cases h4
 exact h5
set_option genCtorIdx false in
structure Fly (t:Tie) (l:List Env) (c:Nat) (e:Addr) (s₁:Shared) (h:Heap):Prop where
 ex:∃ B a0,(∀ a o,s₁.heap.get? a=some o→¬ t.Fr a→B.get? a=some o)∧Heap.FlyingW B l e (.ref c) a0 h
 up:s₁.heap.UpToSlots h
 new:s₁.heap.get? e=none
theorem Fly.keep {l:List Env}{c:Nat}{e:Addr}{s₁:Shared} (F:Fly t l c e s₁ h) {a:Addr}{o:Obj} (q:s₁.heap.get? a=some o) (nf:¬ t.Fr a):h.get? a=some o:=by
 obtain ⟨B,a0,h1,h2⟩:=F.ex
 exact h2.1 a o (h1 a o q nf)
theorem step_slots (K:Stk A t s.heap) (hk:∀ a o,s.heap.get? a=some o→¬ t.Fr a→h.get? a=some o) (hu:s.heap.UpToSlots h):Step noX t t s { s with heap:=h } where
 le:=.refl t
 keepW a o e _ _ nf:=hk a o e nf
 slots a o e _ _ f:=hu a o e (K.nf f e)
 new _ o:=.inl o
 live a o e:=by
  show (h.get? a).isSome=true
  by_cases f:t.Fr a
  ·obtain ⟨sl,q⟩:=hu a o e (K.nf f e); rw [q]; rfl
  ·rw [hk a o e f]; rfl
 gens:=rfl
 os:=rfl
theorem Rel.slots (R:Rel G t st s) (K:Stk A t s.heap) (hk:∀ a o,s.heap.get? a=some o→¬ t.Fr a→h.get? a=some o) (hu:s.heap.UpToSlots h):Rel G t st { s with heap:=h } where
 base b o e:=hk b o (R.base b o e) fun f=>by have:=R.apart b (.inr f.1); rw [e] at this; cases this
 apart:=R.apart
 live a q:=by obtain ⟨o,e⟩:=Option.isSome_iff_exists.mp (R.live a q); exact (step_slots K hk hu).live a o e
 pv:=R.pv
 injρ:=R.injρ
 injδ:=R.injδ
 two:=R.two
 objs l o e:=(R.objs l o e).step (step_slots K hk hu) (fun _ x=>x.elim) fun a o q e=>hk a o e fun f=>R.pv a f.1 ⟨l,q⟩
 cnt:=R.cnt
 sys:=R.sys
 wr:=R.wr
set_option genCtorIdx false in
structure HeldS (t:Tie) (l:List Env) (c:Nat) (e L:Addr) (s₁:Shared) (h:Heap):Prop where
 ex:∃ B a0,(∀ a o,s₁.heap.get? a=some o→¬ t.Fr a→B.get? a=some o)∧Heap.HeldW B l e (.ref c) a0 L h
 up:s₁.heap.UpToSlots h
 new:s₁.heap.get? e=none
theorem made_on {e:Addr}{c:Nat}{h':Heap}{args:List Value} (K:Stk A t s.heap) (hx:Heap.MadeExcOf s.heap h' e (.ref c) args) :
  ∃ B:Heap,(∀ a o,s.heap.get? a=some o→¬ t.Fr a→B.get? a=some o)∧h'.FunFrames B t.st∧B.StaysIn h'∧B.get? e=none:=by
 have inF:∀ {a},t.Fr a→a∈t.st.filterMap (·.frame):=fun f=>let ⟨e,h1,h2⟩:=f.2; List.mem_filterMap.2 ⟨e,h1,h2⟩
 have K':Stk A t h':=⟨K.fr,fun e he=>let ⟨h1,L,o,h2,h3,h4,h5⟩:=K.ob e he; ⟨h1,L,o,h2,h3,hx.keeps _ _ h4,h5⟩⟩
 refine ⟨hideAll s.heap (t.st.filterMap (·.frame)),fun a o q nf=>?_,K'.framesL (fun L f=>hideAll_none _ (inF f)) _ fun _ z=>z,fun b o z=>hx.keeps b o (of_hideAll _ z),?_⟩
 ·refine hideAll_get _ q fun hm=>nf ?_
  obtain ⟨e',h1,h2⟩:=List.mem_filterMap.1 hm
  obtain ⟨-,L',o',h3,h4,-⟩:=K.ob e' h1
  rw [h3] at h2; cases h2
  exact ⟨h4,e',h1,h3⟩
 ·cases z:(hideAll s.heap (t.st.filterMap (·.frame))).get? e with
  | none=>rfl
  | some o=>have:=of_hideAll _ z; rw [hx.new] at this; exact no_none this
theorem leave_new {outer:List Env}{L e:Addr}{c:Nat}{h':Heap}{args:List Value}{Q:Unit→Shared→Prop}{E:Value→Shared→Prop} (K:Stk A t s.heap) (hst:t.st=env :: outer) (hL:env.frame=some L) (hx:Heap.MadeExcOf s.heap h' e (.ref c) args)
  (q:∀ h'',Fly t outer c e s h''→Q () { s with heap:=h'' }):wpAny G.M A (leaving env (.ref e)) Q E { s with heap:=h' }:=by
 obtain ⟨tp,he,-,-⟩:=hx.there
 obtain ⟨B,cov,hfr,hkb,hen⟩:=made_on K hx
 rw [hst] at hfr
 refine wpAny_leaving_firstW (base:=B) (outer:=outer) (by rw [K.fr,hst]) hfr hL he hkb hen rfl rfl rfl fun h'' hl=>?_
 obtain ⟨k1,⟨_,_,k2⟩,k3,k4⟩:=hl
 exact q h'' ⟨⟨_,_,cov,k1,hen,k2,k3⟩,fun a o z nz=>k4 a o (hx.keeps a o z) nz,hx.new⟩
theorem note_new {outer:List Env}{L e:Addr}{c:Nat}{h':Heap}{args:List Value}{Q:Unit→Shared→Prop}{E:Value→Shared→Prop} (K:Stk A t s.heap) (hst:t.st=env :: outer) (hL:env.frame=some L) (hx:Heap.MadeExcOf s.heap h' e (.ref c) args)
  (q:∀ h'',HeldS t (env :: outer) c e L s h''→Q () { s with heap:=h'' }):wpAny G.M A (noteFrame (.ref e) env) Q E { s with heap:=h' }:=by
 obtain ⟨tp,he,-,-⟩:=hx.there
 obtain ⟨B,cov,hfr,hkb,hen⟩:=made_on K hx
 rw [hst] at hfr
 unfold noteFrame
 simp only [hL]
 refine wpAny_bind (wpAny_field (i:=1) (x:=.none) he rfl rfl ?_)
 rw [if_neg (by decide)]
 refine wpAny_entryW (base:=B) (a0:=.ref tp) (by rw [K.fr,hst]) hfr hL he hkb hen rfl (show 1 < 6 from by decide) rfl fun h'' hn=>?_
 obtain ⟨k1,k2,k3,k4⟩:=hn
 exact q h'' ⟨⟨B,_,cov,k1,hen,k2,k3⟩,fun a o z nz=>k4 a o (hx.keeps a o z) nz,hx.new⟩
theorem flight_held {base:Heap}{l:List Env}{e L:Addr}{cls a0:Value}{Q:Unit→Shared→Prop}{E:Value→Shared→Prop} (R:Heap.HeldW base l e cls a0 L s.heap)
  (q:∀ h',Heap.HeldW base l e cls a0 L h'→s.heap.UpToSlots h'→Q () { s with heap:=h' }):wpAny G.M A (setFlight (.ref e) (some L)) Q E s:=by
 obtain ⟨hkb,hen,hl,oe,vs,T,oT,ts,he,hc,hd,h1,hnT,hTe,hT,hdT,h3⟩:=R
 have hz:3 < ts.size:=(Array.getElem?_eq_some_iff.mp h3).1
 have ot:∀ b,b≠T→(s.heap.update T (Obj.mapFields (·.setIfInBounds 3 (rawInt L)))).get? b=s.heap.get? b:=fun b hb=>Heap.get?_update_other _ _ (Ne.symm hb)
 have nt:∀ b o,s.heap.get? b=some o→(∀ vs,o.data≠.fields vs)→b≠T:=fun b o hb hf z=>by
  rw [z,hT] at hb; cases hb; exact hf ts hdT
 unfold setFlight
 refine wpAny_bind (wpAny_field he hd h1 ?_)
 rw [if_pos (show (Value.ref T != Value.none)=true from by simp)]
 refine wpAny_setField hT hdT hz (q _ ⟨fun b o hb=>(ot b fun z=>by rw [z,hnT] at hb; cases hb).trans (hkb b o hb),hen,hl.of_keeps fun b o hb hf=>⟨o,(ot b (nt b o hb hf)).trans hb,rfl⟩,oe,vs,T,_,_,(ot e (Ne.symm hTe)).trans he,hc,hd,h1,hnT,hTe,Heap.get?_update_self _ hT (Obj.isFreed_of_fields (Obj.data_mapFields hdT _)),Obj.data_mapFields hdT _,?_⟩ fun b o hb hf=>⟨o.slots,(ot b (nt b o hb hf)).trans hb⟩)
 simp [hz]
inductive Air (A:Around) (tc:Tie) (env:Env) (c:Nat) (e:Addr) (s:Shared) (h:Heap):Prop
 | made (args:List Value) (K:Stk A tc s.heap) (hx:Heap.MadeExcOf s.heap h e (.ref c) args)
 | fly (l:List Env) (hl:A.frames=some l) (fl:Fly tc l c e s h)
 | held (l:List Env) (L:Addr) (hl:A.frames=some l) (hL:env.frame=some L) (hh:HeldS tc l c e L s h)
theorem Air.leave {tc:Tie}{c:Nat}{e L:Addr}{outer:List Env}{Q:Unit→Shared→Prop}{E:Value→Shared→Prop} (a:Air A tc env c e s h) (hfr:A.frames=some (env :: outer)) (hf:env.frame=some L)
  (q:∀ h'',Fly tc outer c e s h''→Q () { s with heap:=h'' }):wpAny G.M A (leaving env (.ref e)) Q E { s with heap:=h }:=by
 cases a with
 | made args K hx=>exact leave_new K (Option.some.inj (K.fr.symm.trans hfr)) hf hx q
 | fly l hl fl =>
  cases hl.symm.trans hfr
  obtain ⟨B,a0,cov,hfl⟩:=fl.ex
  exact wpAny_leaves_onW hfr hf hfl fun h' f' up=>q h' ⟨⟨B,a0,cov,f'⟩,fl.up.trans up,fl.new⟩
 | held l L' hl hL hh =>
  cases hl.symm.trans hfr
  cases hL.symm.trans hf
  obtain ⟨B,a0,cov,hw⟩:=hh.ex
  unfold leaving
  refine wpAny_bind (wpAny_noteFrame_againW hf hw.2.2.2 (wpAny_landsW hw fun h' hfl up=>?_))
  obtain ⟨k1,k2,⟨_,_,k3⟩,k4⟩:=hfl
  exact q h' ⟨⟨B,a0,cov,k1,k2,k3,k4⟩,hh.up.trans up,hh.new⟩
theorem Air.note {tc:Tie}{c:Nat}{e L:Addr}{outer:List Env}{Q:Unit→Shared→Prop}{E:Value→Shared→Prop} (a:Air A tc env c e s h) (hfr:A.frames=some (env :: outer)) (hf:env.frame=some L)
  (q:∀ h'',HeldS tc (env :: outer) c e L s h''→Q () { s with heap:=h'' }):wpAny G.M A (noteFrame (.ref e) env) Q E { s with heap:=h }:=by
 cases a with
 | made args K hx=>exact note_new K (Option.some.inj (K.fr.symm.trans hfr)) hf hx q
 | fly l hl fl =>
  cases hl.symm.trans hfr
  obtain ⟨B,a0,cov,hfl⟩:=fl.ex
  exact wpAny_looks_onW hfr hf hfl fun h' f' up=>q h' ⟨⟨B,a0,cov,f'⟩,fl.up.trans up,fl.new⟩
 | held l L' hl hL hh =>
  cases hl.symm.trans hfr
  cases hL.symm.trans hf
  obtain ⟨B,a0,cov,hw⟩:=hh.ex
  exact wpAny_noteFrame_againW hf hw.2.2.2 (q h hh)
theorem Air.back {tc:Tie}{c:Nat}{e L:Addr}{outer:List Env}{E:Value→Shared→Prop} (a:Air A tc env c e s h) (hfr:A.frames=some (env :: outer)) (hf:env.frame=some L)
  (q:∀ h'',Air A tc env c e s h''→E (.ref e) { s with heap:=h'' }):notedBy G.M A env (fun x s'=>cameBackBy G.M A env E x s') (.ref e) { s with heap:=h }:=by
 refine a.note hfr hf fun h2 hh=>?_
 obtain ⟨B,a0,cov,hw⟩:=hh.ex
 obtain ⟨_,_,_,oe,vs,T,_,_,he,_,hd,h1,_⟩:=id hw
 refine wpAny_bind (wpAny_field he hd h1 ?_)
 rw [if_neg (show ¬ ((Value.ref T == Value.none)=true) from by simp),hf]
 exact flight_held hw fun h3 hw3 up=>q h3 (.held _ L hfr hf ⟨⟨B,a0,cov,hw3⟩,hh.up.trans up,hh.new⟩)
set_option genCtorIdx false in
structure Land (G:Gd) (X:Addr→Prop) (t:Tie) (s:Shared) (st':MS) (tc:Tie) (s2:Shared):Prop where
 go:∀ h:Heap,(∀ a o,s2.heap.get? a=some o→¬ tc.Fr a→h.get? a=some o)→s2.heap.UpToSlots h →
  ∃ t2:Tie,Step X t t2 s { s2 with heap:=h }∧Rel G t2 st' { s2 with heap:=h }∧∀ a,t2.Avoid a→(s2.heap.get? a).isSome=true
theorem Land.pre {X:Addr→Prop}{t1 tc:Tie}{σ1 s2:Shared} (S:Step X t t1 s σ1) (L:Land G X t1 σ1 st' tc s2):Land G X t s st' tc s2 :=
 ⟨fun h c u=>let ⟨t2,a,b,q⟩:=L.go h c u; ⟨t2,S.trans a,b,q⟩⟩
theorem Land.mono {X Y:Addr→Prop}{tc:Tie}{s2:Shared} (L:Land G X t s st' tc s2) (h:∀ a,X a→Y a):Land G Y t s st' tc s2 :=
 ⟨fun h' c u=>let ⟨t2,a,b,q⟩:=L.go h' c u; ⟨t2,a.mono h,b,q⟩⟩
set_option genCtorIdx false in
structure Ends (G:Gd) (A:Around) (env:Env) (t:Tie) (s:Shared) (st':MS) (c:Nat) (e:Addr) (σ:Shared):Prop where
 ex:∃ tc s2 h,σ={ s2 with heap:=h }∧Land G (own env) t s st' tc s2∧Air A tc env c e s2 h
theorem Ends.pre {t1:Tie}{σ1 σ:Shared}{c:Nat}{e:Addr} (S:Step (own env) t t1 s σ1) (k:Ends G A env t1 σ1 st' c e σ):Ends G A env t s st' c e σ :=
 let ⟨tc,s2,h,e,L,q⟩:=k.ex; ⟨tc,s2,h,e,L.pre S,q⟩
theorem Ends.made {s₁:Shared}{h':Heap}{c:Nat}{e:Addr}{args:List Value} (S:Step (own env) t t' s s₁) (R:Rel G t' st' s₁) (K:Stk A t' s₁.heap) (hx:Heap.MadeExcOf s₁.heap h' e (.ref c) args):Ends G A env t s st' c e { s₁ with heap:=h' } :=
 ⟨t',s₁,h',rfl,⟨fun h cov up=>⟨t',S.trans ((step_slots K cov up).mono fun _ z=>z.elim),R.slots K cov up,fun a q=>R.live a q⟩⟩,.made args K hx⟩
theorem Ends.fly {tc:Tie}{sx:Shared}{hh:Heap}{c:Nat}{e:Addr} (K:Stk A t s.heap) (L:Land G noX t s st' tc sx) (fl:Fly tc t.st c e sx hh):Ends G A env t s st' c e { sx with heap:=hh } :=
 ⟨tc,sx,hh,rfl,L.mono fun _ z=>z.elim,.fly _ K.fr fl⟩
noncomputable def SimXF (G:Gd) (A:Around) (env:Env) (t:Tie) (s:Shared) (tree:Sem Flow) (st':MS) (c:Nat):Prop :=
 ∀ (Q:Flow→Shared→Prop) (E:Value→Shared→Prop),(∀ e σ,Ends G A env t s st' c e σ→E (.ref e) σ)→wpAny G.M A tree Q E s
noncomputable def SimEX (G:Gd) (C:Calls) (d:Dp) (sc:Sc) (Γ:Gam) (q:E) (x:PySem.Expr):Prop :=
 ∀ t st s env loc c st' A,AOk d A→env.scope.names=sc→FrOk G A t env Γ loc s→Rel G t st s→evQ G.P C q loc st=.exc c st'→∀ (Q:Value→Shared→Prop) (E:Value→Shared→Prop),
  (∀ e tc sx h,Land G noX t s st' tc sx→Fly tc t.st c e sx h→E (.ref e) { sx with heap:=h })→wpAny G.M A (eval x env) Q E s
noncomputable def SimX (G:Gd) (C:Calls) (d:Dp) (sc:Sc) (Γ:Gam) (n:Nat) (x:S) (ast:Stmt):Prop :=
 ∀ t st s env loc c st' A,AOk d A→TopA A env→env.scope.names=sc→FrOk G A t env Γ loc s→Rel G t st s→ex G.P C n x loc st=.exc c st'→SimXF G A env t s (exec ast env) st' c
noncomputable def SimXB (G:Gd) (C:Calls) (d:Dp) (sc:Sc) (Γ:Gam) (n:Nat) (l:List S) (m:List Stmt):Prop :=
 ∀ t st s env loc c st' A,AOk d A→TopA A env→env.scope.names=sc→FrOk G A t env Γ loc s→Rel G t st s→exs G.P C n l loc st=.exc c st'→SimXF G A env t s (execs m env) st' c
theorem simXB_nil {m:List Stmt}:SimXB G C d sc Γ n [] m:=by
 intro t st s env loc c st' A hA hT hsc F R e
 cases e
theorem simXB_cons {x:S}{l:List S}{ast:Stmt}{m:List Stmt} (h0:SimS G C d sc Γ n x ast) (h1:SimX G C d sc Γ n x ast) (h2:SimXB G C d sc Γ n l m):SimXB G C d sc Γ n (x :: l) (ast :: m):=by
 intro t st s env loc c st' A hA hT hsc F R e Q E k
 rw [exs_cons] at e
 rcases Res.bind_exc e with e1 | ⟨⟨f1,l1⟩,s1,e1,e⟩
 ·exact wpAny_execs_cons (h1 t st s env loc c st' A hA hT hsc F R e1 _ _ k)
 ·refine wpAny_execs_cons (h0 t st s env loc f1 l1 s1 A hA hT hsc F R e1 _ _ fun f t1 σ1 S1 R1 F1 r1=>?_)
  cases f1 with
  | next =>
   have r1:f=.next:=r1
   subst r1
   exact h2 t1 s1 σ1 env l1 c st' A hA hT hsc F1 R1 e _ _ fun e σ en=>k e σ (en.pre S1)
  | ret X=>cases e
theorem simX_ite {c:E}{b1 b2:List S}{x:PySem.Expr}{m1 m2:List Stmt}{pos:Pos} (hc:SimT G C d sc Γ c x) (h1:SimXB G C d sc Γ n b1 m1) (h2:SimXB G C d sc Γ n b2 m2):SimX G C d sc Γ n (.ite c b1 b2) (.If x m1 m2 pos):=by
 intro t st s env loc k st' A hA hT hsc F R e Q E q
 rw [ex_ite] at e
 obtain ⟨V,s1,e1,e⟩:=Res.bnd_exc e
 obtain ⟨b,s2,e2,e⟩:=Res.bnd_exc e
 obtain ⟨rfl,rfl⟩:=truth_ok e2
 refine wpAny_If (hc t st s env loc b _ A hA hsc F R e1 _ _ fun b' t1 σ1 S1 R1 r1=>?_)
 subst r1
 have S1':Step (own env) t t1 s σ1:=S1.mono fun _ z=>z.elim
 cases b' with
 | true =>
  simp only [if_true] at e ⊢
  exact h1 t1 _ σ1 env loc k st' A hA hT hsc (F.step R S1) R1 e _ _ fun e σ en=>q e σ (en.pre S1')
 | false =>
  simp only [Bool.false_eq_true,if_false] at e ⊢
  exact h2 t1 _ σ1 env loc k st' A hA hT hsc (F.step R S1) R1 e _ _ fun e σ en=>q e σ (en.pre S1')
theorem simX_expr {a:E}{x:Stmt}:SimX G C d sc Γ n (.expr a) x:=by
 intro t st s env loc c st' A hA hT hsc F R e
 rw [ex_expr] at e
 obtain ⟨V,s1,e1,e⟩:=Res.bnd_exc e
 cases e
theorem simX_assign {i:Nat}{a:E}{x:Stmt}:SimX G C d sc Γ n (.assign i a) x:=by
 intro t st s env loc c st' A hA hT hsc F R e
 rw [ex_assign] at e
 obtain ⟨V,s1,e1,e⟩:=Res.bnd_exc e
 by_cases q:i < loc.length
 ·rw [if_pos q] at e; cases e
 ·rw [if_neg q] at e; cases e
theorem simX_setitem {a b e':E}{x:Stmt}:SimX G C d sc Γ n (.setitem a b e') x:=by
 intro t st s env loc c st' A hA hT hsc F R e
 rw [ex_setitem] at e
 obtain ⟨V,s1,e1,e⟩:=Res.bnd_exc e
 obtain ⟨V,s1,e1,e⟩:=Res.bnd_exc e
 obtain ⟨V,s1,e1,e⟩:=Res.bnd_exc e
 obtain ⟨V,s1,e1,e⟩:=Res.bnd_exc e
 cases e
theorem simX_setattr {a e':E}{i:Nat}{x:Stmt}:SimX G C d sc Γ n (.setattr a i e') x:=by
 intro t st s env loc c st' A hA hT hsc F R e
 rw [ex_setattr] at e
 obtain ⟨V,s1,e1,e⟩:=Res.bnd_exc e
 obtain ⟨V,s1,e1,e⟩:=Res.bnd_exc e
 obtain ⟨V,s1,e1,e⟩:=Res.bnd_exc e
 cases e
theorem simX_ret {a:Option E}{x:Stmt}:SimX G C d sc Γ n (.ret a) x:=by
 intro t st s env loc c st' A hA hT hsc F R e
 rw [ex_ret] at e
 cases a with
 | none=>cases e
 | some a =>
  obtain ⟨V,s1,e1,e⟩:=Res.bnd_exc e
  cases e
noncomputable def vbm:List Value:=[.type "ValueError",.type "Exception",.type "BaseException",.type "object"]
noncomputable abbrev OwnX (G:Gd) (x:PySem.Str) (c:Nat):Prop:=OwnCls x c vbm "ValueError.__new__" G.mg G.h₀
theorem simX_raise (hq:d.q=true) (O:G.Ok N) {c:Nat}{x:PySem.Str}{np cpos pos kpos:Pos}{ms:List Nat}{kk:Nat} (W:OwnX G x c) (hg:glob sc x=true) :
  SimX G C d sc Γ n (.raise c) (.Raise (some (.Call (.Name x np) [.Constant (.str (toStr ms)) kk kpos] [] cpos)) none pos):=by
 intro t st s env loc c' st' A hA hT hsc F R e Q E k
 rw [ex_raise] at e
 cases e
 obtain ⟨bm,Nn,nm,qn,bs,hdct,sn,sub,ab,col,dd,k0,k1,k2,k3,k5,mN,hC,hN,hni,T⟩:=W.obj
 refine wpAny_Raise_call_subT (nm:=nm) (q:=qn) (C:=c) (N:=Nn) (bs:=bs) (bm:=bm) (hdct:=hdct) (sn:=sn) (sub:=sub) (ab:=ab) (col:=col) (dd:=dd) (k0:=k0) (k1:=k1) (k2:=k2) (k3:=k3) (k5:=k5) PySem.F.excBase_ValueError (T.hasType PySem.F.excBase_ValueError.hasBase) (hA.hd hq) rfl hni ?_
 refine glob_name O F R hsc hg W.bound ⟨rfl,?_⟩
 refine args_go (C:=C) (l:=[.str ms]) rfl rfl (sim_es_cons rfl sim_str sim_es_nil) hA hsc F R rfl fun vs t1 σ1 S1 R1 r1=>?_
 refine ⟨rfl,?_,R1.base _ _ hC,hN.keeps R1.base,T.keeps R1.base,fun h' e hm=>k e _ (.made (S1.mono fun _ z=>z.elim) R1 (F.step R S1).sk hm)⟩
 rw [r1.length]; show 1≤_; decide
noncomputable def CallsX (G:Gd) (C:Calls) (d:Dp) (xf:Nat→Bool):Prop :=
 ∀ f vs st c st',xf f=true→C f vs st=.exc c st'→∀ A,AC d A→∃ a,G.fa f=some a∧∀ t s args,Stk A t s.heap→Rel G t st s→VRels t s.heap vs args→∀ (B:Result→Shared→Prop),
  (∀ e tc s2 h,Land G noX t s st' tc s2→Fly tc t.st c e s2 h→B (.error (.ref e)) { s2 with heap:=h })→codeAny G.M A (.call (.ref a) ⟨args,[]⟩) B s
noncomputable def CallsQ (G:Gd) (C:Calls) (n:Nat) (qf:Nat→Bool):Prop:=∀ f,qf f=true→CallAt G C ⟨n,false⟩ f
set_option genCtorIdx false in
structure CallsA (G:Gd) (xf qf:Nat→Bool) (C:Calls) (n:Nat):Prop where
 ok:CallsOk G C ⟨n,true⟩
 x:CallsX G C ⟨n,true⟩ xf
 q:CallsQ G C n qf
set_option genCtorIdx false in
structure FnX (G:Gd) (xf qf:Nat→Bool) (fn:Fn) (a:Addr):Prop where
 ex:∃ (fd:FuncData) (body:List Stmt),FnHd G fn a fd body∧∀ (C:Calls) (n:Nat),CallsA G xf qf C n→SimXB G C ⟨n,true⟩ fd.scope.names (gam0 fn) n fn.body body
theorem entry_x (O:G.Ok N) {fn:Fn}{a:Addr}{xf qf:Nat→Bool} (hfn:FnX G xf qf fn a) (CA:CallsA G xf qf C n) (hA:AC ⟨n + 1,true⟩ A) {Vs:List V}{vals:List Value} (K:Stk A t s.heap) (R:Rel G t st s) (r:VRels t s.heap Vs vals) (hnp:Vs.length=fn.np)
  {c:Nat} (e:exs G.P C n fn.body (Vs.map some ++ List.replicate (fn.names.length - fn.np) none) st=.exc c st') {B:Result→Shared→Prop}
  (k:∀ e tc s2 h,Land G noX t s st' tc s2→Fly tc t.st c e s2 h→B (.error (.ref e)) { s2 with heap:=h }) :
  codeAny G.M A (.call (.ref a) ⟨vals,[]⟩) B s:=by
 obtain ⟨fd,body,hd,h15⟩:=hfn.ex
 refine entry_at O hd hA K R r hnp fun env s₁ hs hf np hk0 hg ho hA' F0 R0=>?_
 refine h15 C n CA (t.hideS (own env) (env :: t.st)) st s₁ env _ c st' (A.deeper env) hA' ⟨_,Around.frames_deeper K.fr,hf⟩ hs F0 R0 e _ _ fun e' σ en=>?_
 obtain ⟨tc,s2,h2,rfl,Ld,lv⟩:=en.ex
 refine lv.leave (Around.frames_deeper K.fr) hf fun h'' fl=>k e' tc s2 h'' ⟨fun h3 cov up=>?_⟩ fl
 obtain ⟨t',S',R',av⟩:=Ld.go h3 cov up
 have hpv:t'.pv=(t.hideS (own env) (env :: t.st)).pv:=S'.le.pv
 have nP:∀ b,t.pv b→¬ own env b:=fun b q z=>by
  have:=R.live b (.inr q)
  rw [np b z] at this; exact no_ft this
 have Fg:Forget (own env) noX t' { t' with pv:=t.pv,st:=t.st } { s2 with heap:=h3 } { s2 with heap:=h3 } :=
  ⟨rfl,rfl,fun b q=>⟨by rw [hpv]; exact .inl q,nP b q⟩,fun b q=>by rw [hpv]; exact .inr q,fun b z=>z.elim,fun _ _ _ _ e=>e,rfl,rfl,rfl⟩
 have S'':=Step.unhideS (t:=t) (L:=noX) (l:=env :: t.st) (fun e he=>(List.mem_cons.1 he).elim (fun z=>.inr fun b q=>by rw [z,hf] at q; cases q; exact .inl rfl) .inl) (fun e he=>List.mem_cons_of_mem _ he) (fun b q=>.inl q) np hk0 hg ho S' Fg
 refine ⟨_,S'',R'.forget Fg,fun a q=>av a ?_⟩
 rcases q with q | q
 ·exact .inl q
 ·exact .inr (by rw [hpv]; exact .inl q)
theorem run_okE {P:Prog}{f:Nat}{vs:List V}{X:V} (e:run P (n + 1) f vs st=.ok X st'):∃ fn p,P.fns f=some fn∧vs.length=fn.np∧exs P (run P n) n fn.body (vs.map some ++ List.replicate (fn.names.length - fn.np) none) st=.ok p st'∧X=(match p.1 with | .ret v=>v | .next=>.none):=by
 simp only [run] at e
 split at e
 case h_2=>exact no_stuck e
 rename_i fn hf
 split at e
 case isFalse=>exact no_stuck e
 rename_i hnp
 obtain ⟨p,s1,e1,e⟩:=Res.bind_ok e
 cases e
 exact ⟨fn,p,hf,hnp,e1,rfl⟩
theorem run_excE {P:Prog}{f c:Nat}{vs:List V} (e:run P (n + 1) f vs st=.exc c st'):∃ fn,P.fns f=some fn∧vs.length=fn.np∧exs P (run P n) n fn.body (vs.map some ++ List.replicate (fn.names.length - fn.np) none) st=.exc c st':=by
 simp only [run] at e
 split at e
 case h_2=>cases e
 rename_i fn hf
 split at e
 case isFalse=>cases e
 rename_i hnp
 rcases Res.bind_exc e with e1 | ⟨p,s1,e1,e⟩
 ·exact ⟨fn,hf,hnp,e1⟩
 ·cases e
theorem call_rec (O:G.Ok N) {q:Bool}{PX:Calls→Nat→Prop}{f:Nat} (hfn:∀ fn,G.P.fns f=some fn→∃ a,G.fa f=some a∧FnRec G q PX fn a) (px:PX (run G.P n) n):CallAt G (run G.P (n + 1)) ⟨n + 1,q⟩ f:=by
 intro vs st X st' e A hA
 obtain ⟨fn,p,hf,hnp,e1,h1⟩:=run_okE e
 obtain ⟨a,ha,rec⟩:=hfn fn hf
 exact ⟨a,ha,fun t s args K R r B k=>entry_go O rec px hA K R r hnp e1 fun v t' s' S' R' rv=>k v t' s' S' R' (by rw [h1]; exact rv)⟩
theorem calls_both (O:G.Ok N) {xf qf:Nat→Bool} (hfn:∀ f fn,G.P.fns f=some fn→∃ a,G.fa f=some a∧FnRec G true (CallsA G xf qf) fn a) (hx:∀ f fn,xf f=true→G.P.fns f=some fn→∃ a,G.fa f=some a∧FnX G xf qf fn a)
  (hq:∀ f fn,qf f=true→G.P.fns f=some fn→∃ a,G.fa f=some a∧FnRec G false (fun C n=>CallsQ G C n qf) fn a):∀ n,CallsA G xf qf (run G.P n) n
 | 0=>⟨fun f vs st X st' e=>(by exact no_stuck e),fun f vs st c st' _ e=>(by cases e),fun f _ vs st X st' e=>(by exact no_stuck e)⟩
 | n + 1=>by
  have ih:=calls_both O hfn hx hq n
  refine ⟨fun f=>call_rec O (hfn f) ih,fun f vs st c st' xq e A hA=>?_,fun f qq=>call_rec O (fun fn=>hq f fn qq) ih.q⟩
  obtain ⟨fn,hf,hnp,e1⟩:=run_excE e
  obtain ⟨a,ha,rec⟩:=hx f fn xq hf
  exact ⟨a,ha,fun t s args K R r B k=>entry_x O rec ih hA K R r hnp e1 k⟩
theorem FrOk.mark {x:Option Value} (F:FrOk G A t env Γ loc s):FrOk G (A.mark x) t env Γ loc s:=⟨⟨F.sk.fr,F.sk.ob⟩,F.fn,F.gl,F.bl,F.pvl,F.pvc,F.apart,F.ex⟩
theorem AOk.mark {x:Option Value} (h:AOk d A):AOk ⟨d.n,false⟩ (A.mark x):=⟨nofun,h.dep,h.un⟩
theorem TopA.mark {x:Option Value} (h:TopA A env):TopA (A.mark x) env:=h
theorem name_goes {x:Option Value}{nm:PySem.Str}{pos:Pos} (F:FrOk G (A.mark x) t env Γ loc s) (R:Rel G t st s) (hl:env.kindOf nm=some .local) {Q:Unit→Shared→Prop}{E:Value→Shared→Prop}
  (q:∀ s',Step (own env) t t s s'→Rel G t st s'→FrOk G A t env Γ [] s'→Q () s'):wpAny G.M A (do bindName env nm .none; unbindBehindTheSuite env nm pos) Q E s:=by
 obtain ⟨m,cm,hn,hcc,hz,hs⟩:=F.ex
 refine wpAny_nameGoes hl hn F.noClass fun h' m' hn' hs'=>?_
 have hlv:(h'.get? env.locals).isSome=true:=by obtain ⟨o,_,_,z,_⟩:=hn'; rw [z]; rfl
 have sk:Stk A t h':=Stk.step (A:=A) ⟨F.sk.fr,F.sk.ob⟩ R (Step.priv (X:=(·=env.locals)) (tk:=s.toks + 1) rfl hlv hs') fun a x _ o e vs z=>by
  subst x
  obtain ⟨ob,es,ep,h1,h2,_⟩:=hn'
  rw [show h'.get? env.locals=some o from e] at h1; cases h1
  rw [h2] at z; cases z
 refine q _ (Step.priv (.inl rfl) hlv hs') (R.priv F.pvl hlv hs') ⟨sk,F.fn,F.gl,F.bl,F.pvl,F.pvc,F.apart,m',cm,hn',fun n c e=>?_,hz,fun i y Y _ e2=>by cases e2⟩
 have hc:=hcc n c e
 have hne:=ns_cell hn hc
 obtain ⟨oc,h3,h4⟩:=hc
 exact ⟨oc,(hs'.2 c hne).trans h3,h4⟩
section
variable {xf:Nat→Bool} (O:G.Ok N) (CX:CallsX G C d xf) {l:List E}{m:List PySem.Expr}{cp:Pos} (hm:plainArgs m=true) (hlm:l.length=m.length) (hl:SimEs G C d sc Γ l m)
include O CX hm hlm hl
theorem simEX_call (hfn:∀ f a,G.fa f=some a→FnOk G N f a) {f:Nat}{np:Pos} (hxq:xf f=true) (hne:N.fn f≠Str.empty) (hg:glob sc (N.fn f)=true):SimEX G C d sc Γ (.call f l) (.Call (.Name (N.fn f) np) m [] cp):=by
 intro t st s env loc c st' A hA hsc F R e Q E k
 rw [evQ_call] at e
 obtain ⟨Vs,s2,e2,e⟩:=Res.bnd_exc e
 obtain ⟨a,h1,h2⟩:=CX f Vs s2 c st' hxq e A hA.ac
 have fo:=hfn f a h1
 refine wpAny_Call_ofName (glob_name O F R hsc hg (fo.name.resolve_left hne) ?_)
 refine with_go O (keeps_r fo.keep) hm hlm hl hA hsc F R e2 fun vs t1 σ1 S1 R1 r1=>?_
 exact wpAny_call (h2 t1 σ1 vs (F.step R S1).sk R1 r1 _ fun ee tc sx hh ld fly=>k ee tc sx hh (ld.pre S1) (S1.le.st ▸ fly))
theorem simEX_meth (hcl:∀ c Ca,G.ca c=some Ca→ClsOk G Ca)
  (hme:∀ c k f Ca,G.P.meths c k=some f→G.ca c=some Ca→∃ a,G.fa f=some a∧MethOk G Ca (N.meth k) a)
  {k:Nat}{a:E}{x:PySem.Expr}{ap:Pos} (hx:notSuper x=true) (hln:(ap.endLine == cp.line)=true) (h30:m.length < 30) (ha:SimE G C d sc Γ a x) (hxf:∀ c f,G.P.meths c k=some f→xf f=true) :
  SimEX G C d sc Γ (.meth a k l) (.Call (.Attribute x (N.meth k) ap) m [] cp):=by
 intro t st s env loc c st' A hA hsc F R e Q E kk
 rw [evQ_meth] at e
 obtain ⟨U,s1,e1,e⟩:=Res.bnd_exc e
 cases hmo:methOf G.P U k s1 with
 | none=>rw [hmo] at e; cases e
 | some f =>
  rw [hmo] at e
  obtain ⟨Vs,s2,e2,e⟩:=Res.bnd_exc e
  have hxq:xf f=true:=by
   cases U with
   | ref r =>
    have z:(match s1.heap r with | some (.inst c _)=>G.P.meths c k | _=>none)=some f:=hmo
    split at z
    ·exact hxf _ _ z
    ·exact no_none z
   | _=>exact no_none hmo
  obtain ⟨fa',h1,h2⟩:=CX f (U :: Vs) s2 c st' hxq e A hA.ac
  refine meth_at O hcl hme hx hln h30 hm hlm ha hl hA hsc F R e1 hmo e2 fun fa v vs t2 σ2 f1 S2 R2 r2=>?_
  rw [f1] at h1; cases h1
  exact wpAny_call (h2 t2 σ2 _ (F.step R S2).sk R2 r2 _ fun ee tc sx hh ld fly=>kk ee tc sx hh (ld.pre S2) (S2.le.st ▸ fly))
theorem simEX_new (hne:∀ c k f,G.P.inits c=some (k,f)→∃ Ca fi,G.ca c=some Ca∧G.fa f=some fi∧NewOk G N c Ca fi)
  {c:Nat}{np:Pos} (hg:glob sc (N.cls c)=true) (hxf:∀ k f,G.P.inits c=some (k,f)→xf f=true):SimEX G C d sc Γ (.new c l) (.Call (.Name (N.cls c) np) m [] cp):=by
 intro t st s env loc xc st' A hA hsc F R e Q E q
 rw [evQ_new] at e
 obtain ⟨Vs,s1,e1,e⟩:=Res.bnd_exc e
 unfold makeInst at e
 split at e
 case h_2=>cases e
 rename_i k f hi
 obtain ⟨Ca,fi,c1,c2,no⟩:=hne c k f hi
 have e2:C f (.ref (k,s1.cnt k) :: Vs) (s1.new k (.inst c []))=.exc xc st':=by
  rcases Res.bind_exc e with e | ⟨X1,s2,-,e⟩
  ·exact e
  ·split at e <;> cases e
 refine wpAny_Call_ofName (glob_name O F R hsc hg no.name ?_)
 refine with_go O (keeps_r no.keep) hm hlm hl hA hsc F R e1 fun vs t1 σ1 S1 R1 r1=>?_
 refine wpAny_call ?_
 have XK:=O.K.keeps R1.base
 have K1:=(F.step R S1).sk
 obtain ⟨hh,g,dr,tk,os⟩:=σ1
 refine make_core (makes_of XK no.makes) (looks_findIn XK no.init) (fun self=>bind_fn XK self no.fn) (.inl rfl) ?_
 have keep:∀ b o,hh.get? b=some o→((hh.push emptyDict).push (instObj Ca hh.objs.size)).get? b=some o:=fun b o e=>Heap.get?_push_of_some _ (Heap.get?_push_of_some _ e)
 have fr1:hh.get? (hh.objs.size + 1)=none:=size_none1 _
 have fr0:hh.get? hh.objs.size=none:=size_none _
 have hx:((hh.push emptyDict).push (instObj Ca hh.objs.size)).get? (hh.objs.size + 1)=some (instObj Ca hh.objs.size):=by heap_get
 have hd0:((hh.push emptyDict).push (instObj Ca hh.objs.size)).get? hh.objs.size=some emptyDict:=by heap_get
 have hns:NsZ ((hh.push emptyDict).push (instObj Ca hh.objs.size)) hh.objs.size (fun _=>none) 0:=⟨_,#[],0,hd0,rfl,fun e he=>by simp at he,fun _=>rfl,Nat.le_refl _⟩
 have S2:=Step.bind (k:=k) (d:=some hh.objs.size) (s':=⟨(hh.push emptyDict).push (instObj Ca hh.objs.size),g,dr,tk,os⟩) R1 keep rfl rfl fr1 (fun x z=>by cases z; exact fr0)
 have R2:=Rel.bind (k:=k) (d:=some hh.objs.size) (s':=⟨(hh.push emptyDict).push (instObj Ca hh.objs.size),g,dr,tk,os⟩) (o:=.inst c []) R1 keep rfl rfl fr1
  (fun x z=>by cases z; exact ⟨fr0,(fun z=>absurd z (Nat.ne_of_lt (Nat.lt_succ_self _))),by show (Heap.get? _ _).isSome=true; rw [hd0]; rfl⟩) (by show (Heap.get? _ _).isSome=true; rw [hx]; rfl) (R1.size_sys1 O) ⟨_,_,Ca,_,by simp [Tie.bind],by simp [Tie.bind],c1,hx,hns,⟨fun i v z=>(nomatch z),fun x y z=>(nomatch z)⟩⟩
 have ac:AC d (A.under (.builtin "type.__call__" ⟨.ref Ca :: vs,[]⟩)):=⟨hA.hd,by have:=hA.dep; rw [depth_under_make]; omega,by have:=hA.un; rw [units_under_make]; omega⟩
 obtain ⟨fi',z1,z2⟩:=CX f _ _ _ _ (hxf k f hi) e2 _ ac
 rw [c2] at z1; cases z1
 refine z2 _ _ (.ref (hh.objs.size + 1) :: vs) (K1.step0 R1 S2).under R2 ⟨_,_,rfl,⟨_,rfl,by simp [Tie.bind]⟩,VRels.step S2 (fun _ z=>z.elim) _ r1⟩ _ fun ee tc sx h' ld fly=>?_
 exact q ee tc sx h' ((ld.pre S2).pre S1) (S1.le.st ▸ S2.le.st ▸ fly)
end
theorem evQ_ok {P:Prog}{q:E}{s':MS}{X:V} (e:evQ P C q loc st=.ok X s'):ev P C q loc st=.ok X s':=by
 cases q with
 | call f es =>
  obtain ⟨vs,s1,e1,e⟩:=Res.bnd_ok e
  rw [ev_call,e1]; exact e
 | meth a m es =>
  rw [evQ_meth] at e
  obtain ⟨x,s1,e1,e⟩:=Res.bnd_ok e
  rw [ev_meth,e1]
  show (match methOf P x m s1 with | some f=>_ | none=>_)=_
  cases hf:methOf P x m s1 with
  | none=>rw [hf] at e; exact no_stuck e
  | some f =>
   rw [hf] at e
   obtain ⟨vs,s2,e2,e⟩:=Res.bnd_ok e
   show Res.bind (evL P C es loc s1) _=_
   rw [e2]; exact e
 | new c es =>
  obtain ⟨vs,s1,e1,e⟩:=Res.bnd_ok e
  rw [ev_new,e1]; exact e
 | _=>exact no_stuck e
theorem simS_exprX {q:E}{x:PySem.Expr}{ep:Pos} (h:SimS G C d sc Γ n (.expr q) (.Expr x ep)):SimS G C d sc Γ n (.exprX q) (.Expr x ep):=by
 intro t st s env loc fl loc' st' A hA hT hsc F R e
 rw [ex_exprX] at e
 obtain ⟨V,s1,e1,e⟩:=Res.bind_ok e
 refine h t st s env loc fl loc' st' A hA hT hsc F R ?_
 rw [ex_expr,evQ_ok e1]; exact e
theorem simX_exprX {q:E}{x:PySem.Expr}{ep:Pos} (hnc:notComp x=true) (h:SimEX G C d sc Γ q x):SimX G C d sc Γ n (.exprX q) (.Expr x ep):=by
 intro t st s env loc c st' A hA hT hsc F R e Q E k
 rw [ex_exprX] at e
 rcases Res.bind_exc e with e1 | ⟨V,s1,-,e⟩
 ·exact wpAny_Expr_any (h t st s env loc c st' A hA hsc F R e1 _ _ fun e tc sx hh ld fly=>k e _ (.fly F.sk ld fly)) (by unfold interactive; rw [F.fn]; rfl) (swaps_no hnc _ _ _)
 ·cases e
inductive HandN (sc:Sc) (Γ:Gam):Option Nat→Option PySem.Str→Prop
 | named {i:Nat}{nm:PySem.Str} (hi:Γ[i]?=some (some nm)) (hkl:sc.lookup nm=some .local):HandN sc Γ (some i) (some nm)
 | bare:HandN sc Γ none none
theorem FrOk.unmark {x:Option Value} (F:FrOk G (A.mark x) t env Γ loc s):FrOk G A t env Γ [] s:=by
 obtain ⟨m,cm,hn,hcc,hz,hs⟩:=F.ex
 exact ⟨⟨F.sk.fr,F.sk.ob⟩,F.fn,F.gl,F.bl,F.pvl,F.pvc,F.apart,m,cm,hn,hcc,hz,fun i y Y _ e2=>by cases e2⟩
theorem landOn_exc {P:Prog}{k:Loc→MS→Res (Fl×Loc)}{c c':Nat}{i:Option Nat}{l l':Loc}{s3:MS}{fl:Fl} (e:landOn P k c i l (.exc c' s3)=.ok (fl,l') st') :
  (P.excBase c').contains c'=true∧(P.excBase c').contains c=true∧∃ X l4,k (setX i c' l) s3=.ok (.ret X,l4) st'∧fl=.ret X∧l'=[]:=by
 have e:(if ((P.excBase c').contains c' && (P.excBase c').contains c)=true then (k (setX i c' l) s3).bnd fun p s=>(match p.1 with | .ret v=>Res.ok (Fl.ret v,[]) s | .next=>.stuck) else .stuck)=.ok (fl,l') st':=e
 by_cases hcc:((P.excBase c').contains c' && (P.excBase c').contains c)=true
 ·rw [if_pos hcc] at e
  obtain ⟨q1,q2⟩:=Bool.and_eq_true_iff.1 hcc
  obtain ⟨⟨f4,l4⟩,s4,e4,e⟩:=Res.bnd_ok e
  cases f4 with
  | next=>exact no_stuck e
  | ret X=>cases e; exact ⟨q1,q2,X,l4,e4,rfl,rfl⟩
 ·rw [if_neg hcc] at e; exact no_stuck e
theorem simS_tryX (O:G.Ok N) (gi:GamInj Γ) {q:E}{x:PySem.Expr}{ep:Pos} (hnc:notComp x=true) (he:SimE G C d sc Γ q x) (hx:SimEX G C d sc Γ q x)
  {c:Nat}{i:Option Nat}{hn:PySem.Str}{nm:Option PySem.Str}{hp hpos tpos:Pos}{b:List S}{b0:Stmt}{suite:List Stmt}{hs:List ExceptHandler} (W:OwnX G hn c) (hgh:glob sc hn=true)
  (hk:∀ c',(G.P.excBase c').contains c'=true→(G.P.excBase c').contains c=true→exmOne G.K (.ref c') (.ref c)=some true)
  (hh:HandN sc Γ i nm) (hb:SimB G C ⟨d.n,false⟩ sc Γ n b (b0 :: suite)) :
  SimS G C d sc Γ n (.tryX q c i b) (.Try [.Expr x ep] (.ExceptHandler (some (.Name hn hp)) nm (b0 :: suite) hpos :: hs) [] [] tpos):=by
 intro t st s env loc fl loc' st' A hA hT hsc F R e Q E kk
 rw [ex_tryX] at e
 have hin:interactive env=false:=by unfold interactive; rw [F.fn]; rfl
 cases hC:evQ G.P C q loc st with
 | stuck=>rw [hC] at e; exact no_stuck e
 | ok X s3 =>
  rw [hC] at e
  cases e
  exact wpAny_Try_except (wpAny_execs_cons (wpAny_Expr_any (he t st s env loc X _ A hA hsc F R (evQ_ok hC) _ _ fun v t3 σ3 S3 R3 r3=>wpAny_execs_nil (wpAny_execs_nil (kk _ t3 σ3 (S3.mono fun _ z=>z.elim) R3 (F.step R S3) rfl))) hin (swaps_no hnc _ _ _)))
 | exc c' s3 =>
  rw [hC] at e
  obtain ⟨q1,q2,X,l4,e4,rfl,rfl⟩:=landOn_exc e
  refine wpAny_Try_except (wpAny_execs_cons (wpAny_Expr_any (hx t st s env loc c' s3 A hA hsc F R hC _ _ fun ee tc sx hh' ld fly=>?_) hin (swaps_no hnc _ _ _)))
  obtain ⟨outer,hfr,hfrm⟩:=id hT
  have hst:t.st=env :: outer:=Option.some.inj (F.sk.fr.symm.trans hfr)
  obtain ⟨B,a0,cov,hfl⟩:=fly.ex
  rw [hst] at hfl
  show wpAny _ A (noteFrame (.ref ee) env) _ _ _
  refine wpAny_looks_onW hfr hfrm hfl fun h4 held up4=>?_
  refine wpAny_landsW held fun h5 fl5 up5=>?_
  have up5':=(fly.up.trans up4).trans up5
  obtain ⟨t5,S5,R5,av5⟩:=ld.go h5 (fun a o q nf=>fl5.1 a o (cov a o q nf)) up5'
  have F5:=F.step R S5
  refine wpAny_handleBy_cons (codeAny_handlers_test (glob_name O F5.mark R5 hsc hgh W.bound ?_)) (by intro q; cases q)
  obtain ⟨ob,hob,hobc⟩:=fl5.there
  have LT:Looks G.M h5 (typeOf (.ref ee)) (.ref c'):=hobc ▸ (Looks.ld hob).andThen .now
  refine (exm_one (M:=G.M) (h:=h5) (O.K.keeps R5.base) LT (hk c' q1 q2)).here ?_
  cases hh with
  | named hi hkl =>
   refine codeAny_handlers_suite_as (lands_againW fl5 fun h6 fl6 up6=>?_)
   obtain ⟨t6,S6,R6,av6⟩:=ld.go h6 (fun a o q nf=>fl6.1 a o (cov a o q nf)) (up5'.trans up6)
   have F6:=F.step R S6
   obtain ⟨ob6,hob6,hobc6⟩:=fl6.there
   have rx:VRel t6 h6 (.exc c') (.ref ee):=⟨ee,ob6,rfl,hob6,hobc6,fun z=>by
    have:=av6 ee z
    rw [fly.new] at this; cases this⟩
   refine store_go F6.mark R6 gi hi (.inl (by unfold Env.kindOf; rw [hsc]; exact hkl)) rx fun s7 S7 R7 F7=>?_
   refine hb t6 s3 s7 env _ (.ret X) l4 _ _ hA.mark hT.mark hsc F7 R7 e4 _ _ fun f8 t8 s8 S8 R8 F8 r8=>?_
   obtain ⟨u,rfl,ru⟩:=r8
   refine name_goes F8 R8 (by unfold Env.kindOf; rw [hsc]; exact hkl) fun s9 S9 R9 F9=>?_
   exact kk _ t8 s9 (((S6.mono fun _ z=>z.elim).trans S7).trans (S8.trans S9)) R9 F9 ⟨u,rfl,VRel.step S9 F8.ownPv _ ru⟩
  | bare =>
   refine codeAny_handlers_suite (lands_againW fl5 fun h6 fl6 up6=>?_)
   obtain ⟨t6,S6,R6,av6⟩:=ld.go h6 (fun a o q nf=>fl6.1 a o (cov a o q nf)) (up5'.trans up6)
   have F6:=F.step R S6
   refine hb t6 s3 _ env _ (.ret X) l4 _ _ hA.mark hT.mark hsc F6.mark R6 e4 _ _ fun f8 t8 s8 S8 R8 F8 r8=>?_
   obtain ⟨u,rfl,ru⟩:=r8
   exact kk _ t8 s8 ((S6.mono fun _ z=>z.elim).trans S8) R8 F8.unmark ⟨u,rfl,ru⟩
theorem forLoop_exc {st₀:MS}{range:Bool}{src x:V}{xs:List V}{tg:V→Loc→MS→Res Loc}{bd:Loc→MS→Res (Fl×Loc)}{l:Loc}{s s':MS}{c:Nat} (e:forLoop st₀ range src tg bd (x :: xs) l s=.exc c s') :
  stays st₀ s range src=true∧∃ l2 s2,tg x l s=.ok l2 s2∧(bd l2 s2=.exc c s'∨∃ l3 s3,bd l2 s2=.ok (.next,l3) s3∧forLoop st₀ range src tg bd xs l3 s3=.exc c s'):=by
 rw [forLoop_cons] at e
 split at e
 ·rename_i h
  obtain ⟨l2,s2,e2,e⟩:=Res.bnd_exc e
  refine ⟨h,l2,s2,e2,?_⟩
  rcases Res.bind_exc e with e | ⟨⟨f3,l3⟩,s3,e3,e⟩
  ·exact .inl e
  ·cases f3 with
   | next=>exact .inr ⟨l3,s3,e3,e⟩
   | ret v=>cases e
 ·cases e
inductive FInvX (G:Gd) (A:Around) (C:Calls) (t:Tie) (env:Env) (Γ:Gam) (I:Addr) (s0:Shared) (s1:MS) (range:Bool) (src:V) (xs:List V) (ts:T ⊕ List T) (n:Nat) (body:List S) (c:Nat) (st':MS):Nat→Shared→Prop
 | mk (τ:Tie) (σ:Shared) (sti:MS) (locI:Loc) (done rest:List V) (hxs:xs=done ++ rest) (S:Step (fun a=>a=I∨own env a) t τ s0 σ) (R:Rel G τ sti σ) (F:FrOk G A τ env Γ locI σ) (hI:ItOk G s1 τ σ I range src done.length)
   (e:forLoop s1 range src (setTT G.P C ts) (exs G.P C n body) rest locI sti=.exc c st'):FInvX G A C t env Γ I s0 s1 range src xs ts n body c st' rest.length σ
theorem for_turnX (hq:d.q=true) (gi:GamInj Γ) {ts:T ⊕ List T}{range:Bool}{body:List S}{tast:PySem.Expr}{m:List Stmt} (ht:ForTgt G C d sc Γ ts tast) (hb:SimB G C d sc Γ n body m) (hbx:SimXB G C d sc Γ n body m) (hA:AOk d A) (hT:TopA A env) (hsc:env.scope.names=sc)
  {I:Addr}{s0 σ:Shared}{s1 sti st':MS}{src:V}{xs done rest:List V}{τ:Tie}{locI:Loc}{c:Nat}{RR:Flow→Shared→Prop}{J:Shared→Prop}{EE:Value→Shared→Prop}
  (hfo:forOk ts range src s1=true) (hx:itemsOf s1 range src=some xs) (nI:¬ own env I) (hpI:t.pv I) (nF0:¬ t.Fr I)
  (hxs:xs=done ++ rest) (S:Step (fun a=>a=I∨own env a) t τ s0 σ) (Rr:Rel G τ sti σ) (Fr:FrOk G A τ env Γ locI σ) (hIt:ItOk G s1 τ σ I range src done.length) (e:forLoop s1 range src (setTT G.P C ts) (exs G.P C n body) rest locI sti=.exc c st')
  (exc:∀ {τ:Tie}{σ4 σ':Shared}{e:Addr},Step (fun a=>a=I∨own env a) t τ s0 σ4→Ends G A env τ σ4 st' c e σ'→EE (.ref e) σ')
  (hJ:∀ m s,m < rest.length→FInvX G A C t env Γ I s0 s1 range src xs ts n body c st' m s→J s) :
  wpAny G.M A (pyNext (.ref I)) (fun r s₁=>match r with
   | none=>wpAny G.M A (execs [] env) (fun f s₃=>RR f s₃) EE s₁
   | some v=>wpAny G.M A (letOwnedTupleGo tast (.ref I) v) (fun _ s₁' =>
     wpAny G.M A (assign tast env v) (fun _ s₂=>wpAny G.M A (execs m env) (fun f s₃=>match f with
      | .next | .cont=>J s₃
      | .brk=>RR .next s₃
      | .ret v=>RR (.ret v) s₃) EE s₂) EE s₁') EE s₁) EE σ:=by
 have pI:τ.pv I:=by rw [S.le.pv]; exact hpI
 have nF:¬ τ.Fr I:=fun f=>nF0 (S.le.fr f)
 cases rest with
 | nil=>rw [forLoop_nil] at e; split at e <;> cases e
 | cons x0 rest =>
  refine byQ fun Q' k'=>?_
  obtain ⟨hst,l2,s2,e2,e⟩:=forLoop_exc e
  refine k' ?_
  have hi:xs[done.length]?=some x0:=by rw [hxs,List.getElem?_append_right (Nat.le_refl _),Nat.sub_self]; rfl
  refine it_next Rr pI hx hst hIt hi fun v h1 tk1 SA RA rv hIA=>?_
  have xA:∀ a,a=I→τ.pv a:=fun a z=>by rw [z]; exact pI
  have FA:FrOk G A τ env Γ locI { σ with heap:=h1,toks:=tk1 }:=Fr.stepX Rr SA xA (fun z=>nI (.inl z.symm)) (fun nm c hc z=>nI (.inr ⟨nm,by rw [← z]; exact hc⟩)) fun a z=>by rw [z]; exact nF
  have SA':Step (fun a=>a=I∨own env a) τ τ σ { σ with heap:=h1,toks:=tk1 }:=SA.mono fun a z=>.inl z
  refine for_asg hq gi hA ht hsc hfo FA RA rv hIA e2 fun τ4 σ4 S4 R4 F4=>?_
  have S4':Step (fun a=>a=I∨own env a) τ τ4 { σ with heap:=h1,toks:=tk1 } σ4:=S4.mono fun a z=>.inr z
  have hI4:=hIA.step S4 FA.ownPv RA.pv pI nI nF
  have nF4:¬ τ4.Fr I:=fun f=>nF (S4.le.fr f)
  have pI:τ4.pv I:=by rw [S4.le.pv]; exact pI
  have S04:=(S.trans SA').trans S4'
  rcases e with e | ⟨l3,s3,e3,e⟩
  ·exact hbx τ4 s2 σ4 env l2 c st' A hA hT hsc F4 R4 e _ _ fun ee σ' en=>exc S04 en
  ·refine hb τ4 s2 σ4 env l2 .next l3 s3 A hA hT hsc F4 R4 e3 _ _ fun f t5 σ5 S5 R5 F5 r5=>?_
   have S5':Step (fun a=>a=I∨own env a) τ4 t5 σ4 σ5:=S5.mono fun a z=>.inr z
   have r5:f=.next:=r5
   subst r5
   refine hJ _ _ (Nat.lt_succ_self _) ⟨t5,_,s3,l3,done ++ [x0],rest,by rw [hxs,List.append_assoc]; rfl,S04.trans S5',R5,F5,?_,e⟩
   rw [List.length_append]
   exact hI4.step S5 F4.ownPv R4.pv pI nI nF4
theorem for_finX {I:Addr}{t1:Tie}{σ1 s0 s:Shared}{c:Nat} (np:∀ a,a=I→σ1.heap.get? a=none) (hk:∀ b o,σ1.heap.get? b=some o→s0.heap.get? b=some o) (hg:s0.gens=σ1.gens) (ho:s0.os=σ1.os) (S1:Step noX t t1 s σ1) (F1:FrOk G A t1 env Γ loc σ1) (nP:∀ a,t1.pv a→¬ a=I)
  {τ:Tie}{σ4 σ':Shared}{e:Addr} (S:Step (fun a=>a=I∨own env a) (t1.hide fun a=>a=I) τ s0 σ4) (en:Ends G A env τ σ4 st' c e σ'):Ends G A env t s st' c e σ':=by
 obtain ⟨tc,s2,h2,e2,L,lv⟩:=en.ex
 refine ⟨tc,s2,h2,e2,⟨fun h cov up=>?_⟩,lv⟩
 obtain ⟨t5,S5,R5,av⟩:=L.go h cov up
 have S:=S.trans (S5.mono fun a z=>.inr z)
 have hpv:t5.pv=(t1.hide fun a=>a=I).pv:=S.le.pv
 have hown:∀ a,own env a→t5.pv a:=fun a q=>by rw [hpv]; exact .inl (F1.ownPv a q)
 have Fg:Forget (fun a=>a=I) (own env) t5 { t5 with pv:=t1.pv,st:=t1.st } { s2 with heap:=h } { s2 with heap:=h } :=
  ⟨rfl,rfl,fun a q=>⟨by rw [hpv]; exact .inl q,nP a q⟩,fun a q=>by rw [hpv]; exact .inr q,fun a q=>⟨hown a q,R5.live a (.inr (hown a q))⟩,fun b o _ _ e=>e,rfl,rfl,rfl⟩
 have S':=Step.unhide (t:=t1) (L:=own env) (fun a q=>q) np hk hg ho S Fg
 refine ⟨_,(S1.mono fun _ z=>z.elim).trans S',R5.forget Fg,fun a q=>av a ?_⟩
 rcases q with q | q
 ·exact .inl q
 ·exact .inr (by rw [hpv]; exact .inl q)
theorem simX_for (hq:d.q=true) (O:G.Ok N) (gi:GamInj Γ) {ts:T ⊕ List T}{range:Bool}{it:E}{body:List S}{tast iast j:PySem.Expr}{m:List Stmt}{pos:Pos} (ht:ForTgt G C d sc Γ ts tast) (hset:notSet iast=true) (hia:IterAst sc range iast j) (hj:SimE G C d sc Γ it j) (hb:SimB G C d sc Γ n body m) (hbx:SimXB G C d sc Γ n body m) :
  SimX G C d sc Γ n (.for_ ts range it body) (.For tast iast m [] pos):=by
 intro t st s env loc c st' A hA hT hsc F R e Q E k
 rw [ex_for] at e
 obtain ⟨src,s1,e1,e⟩:=Res.bnd_exc e
 split at e
 case h_2=>cases e
 rename_i xs hx
 split at e
 case isFalse=>cases e
 rename_i hfo
 refine wpAny_For (iter_go O hia hj hA hsc F R e1 hx fun t1 σ1 S1 R1 s0 I hk hI hIl hg ho hit=>?_) (notSet_pure hset env)
 let P:Addr→Prop:=fun a=>a=I
 have np:∀ a,P a→σ1.heap.get? a=none:=fun a z=>by rw [show a=I from z]; exact hI
 have F1:=F.step R S1
 have R0:Rel G (t1.hide P) s1 s0:=R1.hideGrow np hk (fun a z=>by rw [show a=I from z]; exact hIl) hg ho
 have F0:FrOk G A (t1.hide P) env Γ loc s0:=F1.hideGrow np hk hg ho
 have SG:Step noX (t1.hide P) (t1.hide P) σ1 s0:=⟨.refl _,fun a o e _ _ _=>hk a o e,fun a o e _ _ _=>⟨o.slots,hk a o e⟩,fun _ o=>.inl o,fun a o e=>by rw [hk a o e]; rfl,hg,ho⟩
 have I0:ItOk G s1 (t1.hide P) s0 I range src 0:=hit _ _ (fun a r=>VRel.step SG (fun _ z=>z.elim) _ (VRel.hide np _ r)) rfl fun b o e=>e
 have nP:∀ a,t1.pv a→¬ P a:=fun a q z=>by
  have:=R1.live a (.inr q)
  rw [np a z] at this; exact no_ft this
 have nI:¬ own env I:=fun q=>nP I (F1.ownPv I q) rfl
 have nF0:¬ (t1.hide P).Fr I:=F1.sk.fresh hI
 refine codeAny_forLoop_any (FInvX G A C (t1.hide P) env Γ I s0 s1 range src xs ts n body c st') (fun nn σ h=>?_) xs.length ⟨t1.hide P,s0,s1,loc,[],xs,rfl,.refl _ _ _,R0,F0,I0,e⟩
 cases h with
 | mk τ σ sti locI done rest hxs S Rr Fr hIt e=>exact for_turnX (t:=t1.hide P) hq gi ht hb hbx hA hT hsc hfo hx nI (.inr rfl) nF0 hxs S Rr Fr hIt e (fun S en=>by
  obtain ⟨outer,hfr,hfrm⟩:=id hT
  obtain ⟨tc,s2,h2,rfl,Ld,air⟩:=(for_finX np hk hg ho S1 F1 nP S en).ex
  exact air.back hfr hfrm fun h3 air3=>k _ _ ⟨tc,s2,h3,rfl,Ld,air3⟩) fun m s hm h=>⟨m,hm,h⟩
end
end Mine
end
section
namespace Mine
open PySem PySem.W PyProof.Rows PySem.Spec PySem.Calls Builtin Builtin.ObjectAttr Builtin.Getset_descriptor
section
variable {G:Gd}{N:Names}{C:Calls}{d:Dp}{sc:Sc}{Γ:Gam}{A:Around}{t t':Tie}{st st':MS}{s:Shared}{env:Env}{loc:Loc}{X Y Z:V}{v w:Value}{n:Nat}{h:Heap}
noncomputable def xcls (K:Frag) (c:Nat):Bool:=decide (findIn K (.ref c) "__getattribute__"=some (some (.builtin "BaseException.__getattribute__"))) && decide (findIn K (.ref c) "__getattr__"=some none) && decide (mroIn K c (.type "BaseException")=some true) && decide (findIn K (.ref c) "__class__"=some (some (.builtin "object.__class__"))) && decide (specialIn K (.builtin "object.__class__") "__get__"=some (some (.builtin "getset_descriptor.__get__"))) &&
 decide (takesIn K (.builtin "object.__class__")=some true) && decide (mroIn K c (.type "object")=some true) && (clsIn K c).isSome
theorem looks_data {K:Frag}{M:Model} (X:K.In h) {x c:Addr}{nm:PySem.Str}{a g:Value} (h1:findIn K (.ref c) nm=some (some a)) (h2:specialIn K a "__get__"=some (some g)) (h3:takesIn K a=some true):Looks M h (find (.ref x) (.ref c) nm) (.bind g a) :=
 (looks_findIn X h1).andThen ((show Looks M h (getOf (some a)) (some g) from looks_specialIn X h2).andThen ((show Looks M h (dataDescriptor? (some a) (some g)) (some (g,a)) from (looks_takesIn X h3).andThen .now).andThen (Looks.tag .now)))
noncomputable def OfCls (e c:Addr) (h:Heap):Prop:=∃ o,h.get? e=some o∧o.cls=.ref c
theorem OfCls.ty {M:Model}{e c:Addr} (p:OfCls e c h):Looks M h (typeOf (.ref e)) (.ref c):=let ⟨_,h1,h2⟩:=p; h2 ▸ (Looks.ld h1).andThen .now
theorem exc_get {prog:Program}{w:World}{K:Frag}{x c:Addr}{R:Result→Shared→Prop}{tp:Value} (X:K.In s.heap) (p:OfCls x c s.heap) (hm:mroIn K c (.type "object")=some true) (q:R (.ok (.ret (.ref c))) s) :
  codeAny (model prog w) A (.call (.builtin "getset_descriptor.__get__") ⟨[.builtin "object.__class__",.ref x,tp],[]⟩) R s:=by
 obtain ⟨hh,g,dr,tk,os⟩:=s
 have L0:=p.ty (M:=model prog w)
 have L1:=looks_mroIn (M:=model prog w) X hm
 refine codeAny_call_builtin KF.slot_gs.plain KF.entry_gs (KF.slot_gs.check _ _ _ _ _ _ _ _ KF.type_class (KF.args_gs _ _ _) ?_)
 unfold Builtin.«getset_descriptor.__get__» descrGet
 rw [dga_obj]
 refine wpAny_bind (wpAny_pure ?_)
 unfold descrGetter descrCheckInstance descrNameAndClass isInstance
 simp only [KF.owner_class]
 repeat lk
 refine ⟨Code.quiet_builtin _ (by decide +kernel),codeAny_builtin KF.entry_class ?_⟩
 unfold Builtin.«object.__class__» shownTypeOf
 repeat lk
 exact q
theorem exc_check {M:Model}{K:Frag}{x c:Addr}{nm:Value}{Q:Unit→Shared→Prop}{E:Value→Shared→Prop} (X:K.In s.heap) (p:OfCls x c s.heap) (hm:mroIn K c (.type "BaseException")=some true) (q:Q () s) :
  wpAny M A (checkBuiltinCall "BaseException.__getattribute__" ⟨[.ref x,nm],[]⟩) Q E s:=by
 obtain ⟨hh,g,dr,tk,os⟩:=s
 have L:Looks M hh (isInstance (.ref x) (.type "BaseException")) true:=p.ty.andThen (looks_mroIn X hm)
 have hk:builtinKind "BaseException.__getattribute__"=some .slot:=by decide +kernel
 have hsplit:splitId "BaseException.__getattribute__"=some ("BaseException","__getattribute__"):=by decide +kernel
 have ha:=F.args_bexc_ga (.ref x) nm
 simp only [checkBuiltinCall,hk,hsplit]
 refine wpAny_bind (L.at ?_)
 repeat (first | exact q | wp_step)
theorem kitx_exc {K:Frag}{x c:Addr} (hc:xcls K c=true):KitX K (.ref x) (.ref c) (OfCls x c):=by
 obtain ⟨hc,h6⟩:=Bool.and_eq_true_iff.1 hc
 obtain ⟨hc,h5⟩:=Bool.and_eq_true_iff.1 hc
 obtain ⟨hc,h4⟩:=Bool.and_eq_true_iff.1 hc
 obtain ⟨hc,h3⟩:=Bool.and_eq_true_iff.1 hc
 obtain ⟨hc,h2⟩:=Bool.and_eq_true_iff.1 hc
 obtain ⟨hc,h0⟩:=Bool.and_eq_true_iff.1 hc
 obtain ⟨g1,g2⟩:=Bool.and_eq_true_iff.1 hc
 obtain ⟨cd,h6⟩:=Option.isSome_iff_exists.mp h6
 refine ⟨fun _ _ _ p=>p.ty,fun M h X _=>?_,fun h tp dd its n sl X htp=>?_,fun {prog w A E Q s} X p k=>?_⟩
 ·unfold clsIn at h6
  split at h6
  ·rename_i ho
   intro A' Q' E' s' k q
   unfold isType loadHead
   exact wpAny_bind (wpAny_loadPart (k _ _ (X _ _ ho)) (wpAny_pure q))
  ·exact no_none h6
 ·refine Bool.eq_false_iff.mpr fun q=>?_
  have e:c=tp:=Value.ref.inj (beq_iff_eq.mp q)
  subst e
  unfold clsIn at h6
  split at h6
  ·rename_i ho
   have z:=(X _ _ ho).symm.trans htp
   cases z
  ·exact no_none h6
 ·obtain ⟨hh,g,dr,tk,os⟩:=s
  have L0:=p.ty (M:=model prog w)
  have L1:=looks_findIn (M:=model prog w) X (of_decide_eq_true g1)
  have L2:Looks (model prog w) hh (hookBefore (.ref c)) none:=looks_findIn (M:=model prog w) X (of_decide_eq_true g2)
  have L3:=looks_data (M:=model prog w) (x:=x) X (of_decide_eq_true h2) (of_decide_eq_true h3) (of_decide_eq_true h4)
  have hx2:(Value.builtin "BaseException.__getattribute__" == Value.builtin "object.__getattribute__")=false:=by decide +kernel
  unfold getAttr? getAttrBy? getAttrBy
  refine wpAny_bind (wpAny_mkText (wpAny_bind (wpAny_attempt (wpAny_holding (wpAny_bind (L0.at (wpAny_bind (L1.at ?_))))))))
  show wpAny _ _ (if (onTheHeap (Value.ref c) && Value.builtin "BaseException.__getattribute__" == Value.builtin "object.__getattribute__")=true then _ else _) _ _ _
  rw [hx2,Bool.and_false,if_neg Bool.false_ne_true]
  refine wpAny_bind (L2.at (wpAny_bind (wpAny_attempt (wpAny_holding ?_))))
  show wpAny _ _ (boundAndCalled _ _ _) _ _ _
  refine wpAny_bind (wpAny_of_eq (F.attr_ValueError.ga.bind (.ref x)) ?_)
  refine wpAny_call (codeAny_call_builtin F.attr_ValueError.ga.plain F.entry_bexc_ga (exc_check (s:=⟨hh,g,dr,_,os⟩) X p (of_decide_eq_true h0) ?_))
  unfold Builtin.«object.__getattribute__»
  refine wpAny_bind (wpAny_pure (wpAny_bind (wpAny_pure (wpAny_bind (L0.at (wpAny_bind (L3.at ?_)))))))
  show wpAny _ _ (holding [Value.builtin "object.__class__"] (call (.builtin "getset_descriptor.__get__") [.builtin "object.__class__",.ref x,.ref c]) >>= ret) _ _ _
  refine wpAny_bind (wpAny_holding (wpAny_call (exc_get (s:=⟨hh,g,dr,_,os⟩) X p (of_decide_eq_true h5) ?_)))
  exact wpAny_pure (handed_on rfl (wpAny_pure k))
noncomputable def xval (k:Nat):Value:=if k=0 then .type "ValueError" else .ref k
theorem sim_isX (O:G.Ok N) {a:E}{x:PySem.Expr}{k:Nat}{y:PySem.Str}{np yp pos:Pos} (hg:glob sc "isinstance"=true) (hx:isStarred x=false) (hgy:glob sc y=true) (hy:(k=0∧y="ValueError")∨(k≠0∧G.mg y=some (.ref k)))
  (hk:∀ c,(G.P.excBase c).contains c=true→xcls G.K c=true∧kitOne G.K (.ref c) (xval k)=some ((G.P.excBase c).contains k)) (ha:SimE G C d sc Γ a x) :
  SimE G C d sc Γ (.isX a k) (.Call (.Name "isinstance" np) [x,.Name y yp] [] pos):=by
 intro t st s env loc X st' A hA hsc F R e Q E q
 rw [ev_isX] at e
 obtain ⟨U,s1,e1,e⟩:=Res.bind_ok e
 cases U with
 | exc c =>
  have e:(if (G.P.excBase c).contains c=true then Res.ok (V.bool ((G.P.excBase c).contains k)) s1 else .stuck)=.ok X st':=e
  by_cases hc:(G.P.excBase c).contains c=true
  ·rw [if_pos hc] at e
   cases e
   obtain ⟨c1,c2⟩:=hk c hc
   refine wpAny_Call_ofName (built_glob (v:=.builtin "isinstance") O F R hsc hg (by decide) (by decide +kernel) ?_)
   refine callWith_of (P:=G.K.In) (by rw [star_plain pos env (m:=[x,.Name y yp]) (by have hyy:isStarred (PySem.Expr.Name y yp)=false:=rfl; simp [plainArgs,hx,hyy])]; rfl) (keeps_b _) (args2_go hx rfl ?_)
   refine ha t st s env loc _ _ A hA hsc F R e1 _ _ fun v t1 σ1 S1 R1 r1=>?_
   have XK:=O.K.keeps R1.base
   obtain ⟨ee,oo,rfl,ho,hcl,-⟩:=r1
   have fin:wpAny G.M A (call (.builtin "isinstance") [.ref ee,xval k]) Q E σ1:=kia_one (kitx_exc c1) XK ⟨oo,ho,hcl⟩ c2 nofun fun tk=>q _ t1 _ (S1.trans (Step.toks _ _ _ tk)) (R1.toks tk) rfl
   have F1:=F.step R S1
   rcases hy with ⟨rfl,rfl⟩ | ⟨hk0,hm⟩
   ·exact built_glob (v:=.type "ValueError") O F1 R1 hsc hgy (by decide) (by decide +kernel) ⟨XK,fin⟩
   ·refine glob_name O F1 R1 hsc hgy hm ⟨XK,?_⟩
    rw [xval,if_neg hk0] at fin
    exact fin
  ·rw [if_neg hc] at e; exact no_stuck e
 | _=>exact no_stuck e
end
end Mine
end
section
namespace Mine
open PySem PySem.W PyProof.Rows
inductive Ck (p:Prop):Type where
 | yes (h:p)
 | no
noncomputable def Ck.bind {p q:Prop} (a:Ck p) (k:p→Ck q):Ck q:=Ck.rec (motive:=fun _=>Ck q) k .no a
noncomputable def Ck.isYes {p:Prop} (a:Ck p):Bool:=Ck.rec (fun _=>true) false a
theorem Ck.get {p:Prop}{a:Ck p} (h:a.isYes=true):p:=by
 cases a with
 | yes g=>exact g
 | no=>exact no_ft h
theorem and_ok {a b:Bool} (h:(a && b)=true):a=true∧b=true:=by cases a <;> cases b <;> first | exact ⟨rfl,rfl⟩ | exact no_ft h
class No (α:Type) where
 no:α
noncomputable instance {p:Prop}:No (Ck p):=⟨.no⟩
noncomputable def wb {α:Type} [No α] (b:Bool) (k:b=true→α):α:=Bool.rec (motive:=fun b=>(b=true→α)→α) (fun _=>No.no) (fun k=>k rfl) b k
noncomputable def wk {p:Prop}{α:Type} [No α] (a:Ck p) (k:p→α):α:=Ck.rec (motive:=fun _=>α) k No.no a
@[elab_as_elim] noncomputable def wq {α:Type} [BEq α] [LawfulBEq α] {P:α→Type} [∀ x,No (P x)] (a b:α) (k:P a):P b:=wb (a == b) fun h=>eq_of_beq h ▸ k
section
variable {P:PySem.Expr→Type} [∀ x,No (P x)]
@[elab_as_elim] noncomputable def wName (x:PySem.Expr) (f:∀ y p,P (.Name y p)):P x:=wb (Nat.beq x.ctorIdx 23) fun h=>PySem.Expr.Name.elim x (Nat.eq_of_beq_eq_true h) f
@[elab_as_elim] noncomputable def wConst (x:PySem.Expr) (f:∀ y k p,P (.Constant y k p)):P x:=wb (Nat.beq x.ctorIdx 19) fun h=>PySem.Expr.Constant.elim x (Nat.eq_of_beq_eq_true h) f
@[elab_as_elim] noncomputable def wUn (x:PySem.Expr) (f:∀ o a p,P (.UnaryOp o a p)):P x:=wb (Nat.beq x.ctorIdx 3) fun h=>PySem.Expr.UnaryOp.elim x (Nat.eq_of_beq_eq_true h) f
@[elab_as_elim] noncomputable def wBool (x:PySem.Expr) (f:∀ o a p,P (.BoolOp o a p)):P x:=wb (Nat.beq x.ctorIdx 0) fun h=>PySem.Expr.BoolOp.elim x (Nat.eq_of_beq_eq_true h) f
@[elab_as_elim] noncomputable def wBin (x:PySem.Expr) (f:∀ a o b p,P (.BinOp a o b p)):P x:=wb (Nat.beq x.ctorIdx 2) fun h=>PySem.Expr.BinOp.elim x (Nat.eq_of_beq_eq_true h) f
@[elab_as_elim] noncomputable def wCmp (x:PySem.Expr) (f:∀ a o b p,P (.Compare a o b p)):P x:=wb (Nat.beq x.ctorIdx 15) fun h=>PySem.Expr.Compare.elim x (Nat.eq_of_beq_eq_true h) f
@[elab_as_elim] noncomputable def wTup (x:PySem.Expr) (f:∀ a o p,P (.Tuple a o p)):P x:=wb (Nat.beq x.ctorIdx 25) fun h=>PySem.Expr.Tuple.elim x (Nat.eq_of_beq_eq_true h) f
@[elab_as_elim] noncomputable def wList (x:PySem.Expr) (f:∀ a p,P (.List a p)):P x:=wb (Nat.beq x.ctorIdx 24) fun h=>PySem.Expr.List.elim x (Nat.eq_of_beq_eq_true h) f
@[elab_as_elim] noncomputable def wDict (x:PySem.Expr) (f:∀ a b p,P (.Dict a b p)):P x:=wb (Nat.beq x.ctorIdx 6) fun h=>PySem.Expr.Dict.elim x (Nat.eq_of_beq_eq_true h) f
@[elab_as_elim] noncomputable def wSub (x:PySem.Expr) (f:∀ a b p,P (.Subscript a b p)):P x:=wb (Nat.beq x.ctorIdx 21) fun h=>PySem.Expr.Subscript.elim x (Nat.eq_of_beq_eq_true h) f
@[elab_as_elim] noncomputable def wSlice (x:PySem.Expr) (f:∀ a b c p,P (.Slice a b c p)):P x:=wb (Nat.beq x.ctorIdx 26) fun h=>PySem.Expr.Slice.elim x (Nat.eq_of_beq_eq_true h) f
@[elab_as_elim] noncomputable def wAttr (x:PySem.Expr) (f:∀ a b p,P (.Attribute a b p)):P x:=wb (Nat.beq x.ctorIdx 20) fun h=>PySem.Expr.Attribute.elim x (Nat.eq_of_beq_eq_true h) f
@[elab_as_elim] noncomputable def wCall (x:PySem.Expr) (f:∀ a b c p,P (.Call a b c p)):P x:=wb (Nat.beq x.ctorIdx 16) fun h=>PySem.Expr.Call.elim x (Nat.eq_of_beq_eq_true h) f
@[elab_as_elim] noncomputable def wComp (x:PySem.Expr) (f:∀ a b c p,P (.ListComp a b c p)):P x:=wb (Nat.beq x.ctorIdx 8) fun h=>PySem.Expr.ListComp.elim x (Nat.eq_of_beq_eq_true h) f
end
section
variable {α:Type}{P:List α→Type} [∀ x,No (P x)]
@[elab_as_elim] noncomputable def w0 (l:List α) (f:P []):P l:=List.rec (motive:=fun l=>P l) f (fun _ _ _=>No.no) l
@[elab_as_elim] noncomputable def wc (l:List α) (f:∀ a r,P (a :: r)):P l:=List.rec (motive:=fun l=>P l) No.no (fun a r _=>f a r) l
@[elab_as_elim] noncomputable def w1 (l:List α) (f:∀ a,P [a]):P l:=wc l fun a r=>w0 (P:=fun r=>P (a :: r)) r (f a)
@[elab_as_elim] noncomputable def w2 (l:List α) (f:∀ a b,P [a,b]):P l:=wc l fun a r=>w1 (P:=fun r=>P (a :: r)) r (f a)
variable {Q:Option α→Type} [∀ x,No (Q x)]
@[elab_as_elim] noncomputable def wn (l:Option α) (f:Q none):Q l:=Option.rec (motive:=fun l=>Q l) f (fun _=>No.no) l
@[elab_as_elim] noncomputable def ws (l:Option α) (f:∀ a,Q (some a)):Q l:=Option.rec (motive:=fun l=>Q l) No.no f l
end
section
variable {P:PySem.Expr→Type} [∀ x,No (P x)]
@[elab_as_elim] noncomputable def wCallN (x:PySem.Expr) (n:PySem.Str) (f:∀ np l p,P (.Call (.Name n np) l [] p)):P x :=
 wCall x fun a l k p=>wName (P:=fun a=>P (.Call a l k p)) a fun y np=>wq (P:=fun y=>P (.Call (.Name y np) l k p)) n y (w0 (P:=fun k=>P (.Call (.Name n np) l k p)) k (f np l p))
@[elab_as_elim] noncomputable def wCallA (x:PySem.Expr) (n:PySem.Str) (f:∀ a ap l p,notSuper a=true→(ap.endLine == p.line)=true→l.length < 30→P (.Call (.Attribute a n ap) l [] p)):P x :=
 wCall x fun b l k p=>wAttr (P:=fun b=>P (.Call b l k p)) b fun a y ap=>wq (P:=fun y=>P (.Call (.Attribute a y ap) l k p)) n y (w0 (P:=fun k=>P (.Call (.Attribute a n ap) l k p)) k
  (wb (notSuper a) fun h1=>wb (ap.endLine == p.line) fun h2=>wb (decide (l.length < 30)) fun h3=>f a ap l p h1 h2 (of_decide_eq_true h3)))
@[elab_as_elim] noncomputable def wK (v:Const) (x:PySem.Expr) (f:∀ k p,P (.Constant v k p)):P x:=wConst x fun c k p=>wb (decide (v=c)) fun h=>of_decide_eq_true h ▸ f k p
end
end Mine
end
section
namespace Mine
open PySem PySem.W PyProof.Rows
set_option genCtorIdx false in
structure Hyp (G:Gd) (N:Names) (C:Calls) (d:Dp):Prop where
 O:G.Ok N
 CO:d.q=true→CallsOk G C d
 hcl:∀ c Ca,G.ca c=some Ca→ClsOk G Ca
 hfn:∀ f a,G.fa f=some a→FnOk G N f a
 hme:∀ c k f Ca,G.P.meths c k=some f→G.ca c=some Ca→∃ a,G.fa f=some a∧MethOk G Ca (N.meth k) a
 hne:∀ c k f,G.P.inits c=some (k,f)→∃ Ca fi,G.ca c=some Ca∧G.fa f=some fi∧NewOk G N c Ca fi
 xw:∀ y c,N.xs.contains (y,c)=true→c≠0∧OwnX G y c
 xk:∀ c k,(G.P.excBase c).contains c=true→(G.P.excBase c).contains k=true→kitOne G.K (.ref c) (xval k)=some true∧(k≠0→exmOne G.K (.ref c) (.ref k)=some true)
 xm:∀ k c f,N.xm k=true→G.P.meths c k=some f→N.xf f=true
 xn:∀ c k f,N.xm (1000 + c)=true→G.P.inits c=some (k,f)→N.xf f=true
 xi:∀ c k,(G.P.excBase c).contains c=true→(k=0∨∃ y,N.xs.contains (y,k)=true)→xcls G.K c=true∧kitOne G.K (.ref c) (xval k)=some ((G.P.excBase c).contains k)
 CX:d.q=true→CallsX G C d N.xf
 CQ:CallsQ G C d.n N.qf
theorem Hyp.quiet {G:Gd}{N:Names}{C:Calls}{d:Dp} (H:Hyp G N C d):Hyp G N C ⟨d.n,false⟩:=⟨H.O,nofun,H.hcl,H.hfn,H.hme,H.hne,H.xw,H.xk,H.xm,H.xn,H.xi,nofun,H.CQ⟩
section
variable {G:Gd}{N:Names}{C:Calls}{d:Dp}{sc:Sc}{Γ:Gam}{x:PySem.Expr}
def SimET (G:Gd) (C:Calls) (d:Dp) (sc:Sc) (Γ:Gam) (e:E) (x:PySem.Expr):Prop:=isStarred x=false∧notSlice x=true∧SimE G C d sc Γ e x∧SimT G C d sc Γ e x
def SimLs (G:Gd) (C:Calls) (d:Dp) (sc:Sc) (Γ:Gam) (l:List E) (m:List PySem.Expr):Prop:=SimL G C d sc Γ l m∧SimEs G C d sc Γ l m∧plainArgs m=true∧l.length=m.length
theorem simET {e:E} (h1:isStarred x=false) (h2:notSlice x=true) (h3:plainTest x=true) (h:SimE G C d sc Γ e x):SimET G C d sc Γ e x:=⟨h1,h2,h,simT_plain h3 h⟩
theorem SimET.e {e:E} (h:SimET G C d sc Γ e x):SimE G C d sc Γ e x:=h.2.2.1
theorem SimET.t {e:E} (h:SimET G C d sc Γ e x):SimT G C d sc Γ e x:=h.2.2.2
theorem ls_cons {e:E}{l:List E}{m:List PySem.Expr} (h1:SimET G C d sc Γ e x) (h2:SimLs G C d sc Γ l m):SimLs G C d sc Γ (e :: l) (x :: m) :=
 ⟨.cons h1.e h1.t h2.1,sim_es_cons h1.1 h1.e h2.2.1,by rw [show plainArgs (x :: m)=(!isStarred x && plainArgs m) from rfl,h1.1]; exact h2.2.2.1,congrArg Nat.succ h2.2.2.2⟩
def ItOk' (G:Gd) (C:Calls) (d:Dp) (sc:Sc) (Γ:Gam) (range:Bool) (it:E) (i:PySem.Expr):Prop:=∃ j,IterAst sc range i j∧SimE G C d sc Γ it j
noncomputable def ckIt (range:Bool) {it:E} (i:PySem.Expr) (f:(x:PySem.Expr)→Ck (SimET G C d sc Γ it x)):Ck (ItOk' G C d sc Γ range it i) :=
 match range with
 | false=>(f i).bind fun h=>.yes ⟨i,.plain i,h.e⟩
 | true=>wCallN i "range" fun np l p=>wb (glob sc "range") fun hg=>w1 l fun j=>(f j).bind fun h=>.yes ⟨j,.range hg h.1,h.e⟩
set_option genCtorIdx false in
structure CompAst (G:Gd) (C:Calls) (d:Dp) (sc:Sc) (Γ:Gam) (slot:Nat) (range:Bool) (it:E) (cond:Option E) (elt:E) (e i:PySem.Expr) (y:PySem.Str) (ifs:List PySem.Expr) (scope:Scope):Prop where
 ok:compOk sc scope slot Γ y=true
 ns:notSet i=true
 it:ItOk' G C d sc Γ range it i
 co:CondSim G C d (compSc sc scope.names) (compGam (compSc sc scope.names) Γ slot y) cond ifs
 el:SimE G C d (compSc sc scope.names) (compGam (compSc sc scope.names) Γ slot y) elt e
@[elab_as_elim] noncomputable def wComp1 {P:PySem.Expr→Type} [∀ x,No (P x)] {slot:Nat}{range:Bool}{it:E}{cond:Option E}{elt:E} (x:PySem.Expr) (fi:∀ x,Ck (SimET G C d sc Γ it x)) (fc:∀ sc Γ m,Ck (CondSim G C d sc Γ cond m)) (fe:∀ sc Γ x,Ck (SimET G C d sc Γ elt x))
  (k:∀ e i y px ifs scope pos,CompAst G C d sc Γ slot range it cond elt e i y ifs scope→P (.ListComp e [⟨.Name y px,i,ifs,0⟩] scope pos)):P x :=
 wComp x fun e gs scope pos=>w1 gs fun g=>match g with
  | ⟨t,i,ifs,a⟩=>wName t fun y px=>wq (P:=fun a=>P (.ListComp e [⟨.Name y px,i,ifs,a⟩] scope pos)) 0 a
   (wb (compOk sc scope slot Γ y) fun h1=>wb (notSet i) fun h2=>wk (ckIt range i fi) fun h3=>wk (fc (compSc sc scope.names) (compGam (compSc sc scope.names) Γ slot y) ifs) fun h4=>wk (fe (compSc sc scope.names) (compGam (compSc sc scope.names) Γ slot y) e) fun h5=>k e i y px ifs scope pos ⟨h1,h2,h3,h4,h5.e⟩)
theorem ck_comp (hq:d.q=true) (H:Hyp G N C d) {M:Option Nat}{slot:Nat}{range:Bool}{it:E}{cond:Option E}{elt:E}{e i:PySem.Expr}{y:PySem.Str}{px pos:Pos}{ifs:List PySem.Expr}{scope:Scope} (K:CompAst G C d sc Γ slot range it cond elt e i y ifs scope) :
  SimET G C d sc Γ (.comp M slot range it cond elt) (.ListComp e [⟨.Name y px,i,ifs,0⟩] scope pos):=by
 obtain ⟨j,h1,h2⟩:=K.it
 exact simET rfl rfl rfl (sim_comp hq H.O (compOk_real K.ok) K.ns h1 h2 K.co K.el)
theorem ck_isX (H:Hyp G N C d) {a:E}{k:Nat}{y:PySem.Expr}{yn:PySem.Str}{np yp p:Pos} (h2:glob sc "isinstance"=true) (h3:glob sc yn=true) (h4:((decide (k=0) && yn == ("ValueError":PySem.Str)) || N.xs.contains (yn,k))=true) (g:SimET G C d sc Γ a y) :
  SimET G C d sc Γ (.isX a k) (.Call (.Name "isinstance" np) [y,.Name yn yp] [] p):=by
 have h4:=Bool.or_eq_true_iff.1 h4
 refine simET rfl rfl rfl (sim_isX H.O h2 g.1 h3 (h4.imp (fun h=>?_) fun h=>?_) (fun c c1=>H.xi c k c1 (h4.imp (fun h=>of_decide_eq_true (and_ok h).1) fun h=>⟨yn,h⟩)) g.e)
 ·obtain ⟨q1,q2⟩:=and_ok h
  exact ⟨of_decide_eq_true q1,eq_of_beq q2⟩
 ·exact ⟨(H.xw yn k h).1,(H.xw yn k h).2.bound⟩
noncomputable def ckCall (H:Hyp G N C d) (f:Nat):Ck (CallAt G C d f) :=
 match d,H with
 | ⟨_,true⟩,H=>.yes (H.CO rfl f)
 | ⟨_,false⟩,H=>wb (N.qf f) fun h=>.yes (H.CQ f h)
theorem ck_attr (H:Hyp G N C d) {a:E}{i:Nat}{p:Pos} (h2:decide (i < 13)=true) (h3:notSuper x=true) (g:SimET G C d sc Γ a x):SimET G C d sc Γ (.attr a i) (.Attribute x (N.attr i) p):=by
 rw [show N.attr i=G.an i from congrFun H.O.attr i]
 exact simET rfl rfl rfl (sim_attr H.O H.hcl (of_decide_eq_true h2) h3 g.e)
theorem not_empty {n:PySem.Str} (h:(!(n == Str.empty))=true):n≠Str.empty:=by
 intro e; subst e; exact no_ft h
noncomputable def ckKs {a:E} (H:Hyp G N C d) (sc:Sc) (Γ:Gam) (ks:List Kind) (np:Pos) (y z:PySem.Expr) (p:Pos) (g:SimET G C d sc Γ a y) (hg:glob sc "isinstance"=true):Ck (SimET G C d sc Γ (.isinst a ks) (.Call (.Name "isinstance" np) [y,z] [] p)) :=
 wc ks fun k r=>wb (kindUse k) fun h1=>match r with
  | []=>wb (chkKind N sc k z) fun h2=>.yes (simET rfl rfl rfl (sim_isinst1 H.O h1 hg g.1 h2 g.e))
  | k' :: r=>w0 r (wb (kindUse k') fun h2=>wTup z fun zs cx tp=>wb (chkKinds N sc [k,k'] zs) fun h3=>.yes (simET rfl rfl rfl (sim_isinst2 H.O h1 h2 hg g.1 h3 g.e)))
noncomputable def kLoc (H:Hyp G N C d) {i:Nat} (sc:Sc) (Γ:Gam) (x:PySem.Expr) :Ck (SimET G C d sc Γ (.loc i) x) :=
 wName x fun y p=>wb (Γ[i]? == some (some y)) fun h1=>wb (!(y == ("__debug__":PySem.Str))) fun h2=>.yes (simET rfl rfl rfl (sim_loc (eq_of_beq h1) (Bool.not_eq_true' _ ▸ h2)))
noncomputable def kGint (H:Hyp G N C d) {g:PySem.Str}{i:Int} (sc:Sc) (Γ:Gam) (x:PySem.Expr) :Ck (SimET G C d sc Γ (.gint g i) x) :=
 wName x fun y p=>wq g y (wb (glob sc g) fun h2=>wb (N.gi.contains (g,i)) fun h3=>.yes (simET rfl rfl rfl (sim_gint H.O h2 h3)))
noncomputable def kGstr (H:Hyp G N C d) {g:PySem.Str}{i:List Nat} (sc:Sc) (Γ:Gam) (x:PySem.Expr) :Ck (SimET G C d sc Γ (.gstr g i) x) :=
 wName x fun y p=>wq g y (wb (glob sc g) fun h2=>wb (N.gs.contains (g,i)) fun h3=>.yes (simET rfl rfl rfl (sim_gstr H.O h2 h3)))
noncomputable def kNeg (H:Hyp G N C d) {a:E} (sc:Sc) (Γ:Gam) (x:PySem.Expr) (ra:∀ y,Ck (SimET G C d sc Γ a y)):Ck (SimET G C d sc Γ (.neg a) x) :=
 wUn x fun o y p=>wq .USub o ((ra y).bind fun g=>.yes (simET rfl rfl rfl (sim_neg g.e)))
noncomputable def kNot (H:Hyp G N C d) {a:E} (sc:Sc) (Γ:Gam) (x:PySem.Expr) (ra:∀ y,Ck (SimET G C d sc Γ a y)):Ck (SimET G C d sc Γ (.not a) x) :=
 wUn x fun o y p=>wq .Not o ((ra y).bind fun g=>.yes ⟨rfl,rfl,sim_not g.e,simT_not g.t⟩)
noncomputable def kAnd (H:Hyp G N C d) {l:List E} (sc:Sc) (Γ:Gam) (x:PySem.Expr) (rl:∀ m,Ck (SimLs G C d sc Γ l m)):Ck (SimET G C d sc Γ (.and l) x) :=
 wBool x fun o m p=>wq .And o ((rl m).bind fun g=>.yes ⟨rfl,rfl,simE_and g.1,simTE_and g.1⟩)
noncomputable def kOr (H:Hyp G N C d) {l:List E} (sc:Sc) (Γ:Gam) (x:PySem.Expr) (rl:∀ m,Ck (SimLs G C d sc Γ l m)):Ck (SimET G C d sc Γ (.or l) x) :=
 wBool x fun o m p=>wq .Or o ((rl m).bind fun g=>.yes ⟨rfl,rfl,simE_or g.1,simTE_or g.1⟩)
noncomputable def kBin (H:Hyp G N C d) {o:Bop}{a:E}{b:E} (sc:Sc) (Γ:Gam) (x:PySem.Expr) (ra:∀ y,Ck (SimET G C d sc Γ a y)) (rb:∀ y,Ck (SimET G C d sc Γ b y)):Ck (SimET G C d sc Γ (.bin o a b) x) :=
 wBin x fun y q z p=>wq (opOf o) q ((ra y).bind fun g1=>(rb z).bind fun g2=>.yes (simET rfl rfl rfl (sim_bin H.O g1.e g2.e)))
noncomputable def kCmp (H:Hyp G N C d) {a:E}{o:Cop}{b:E} (sc:Sc) (Γ:Gam) (x:PySem.Expr) (ra:∀ y,Ck (SimET G C d sc Γ a y)) (rb:∀ y,Ck (SimET G C d sc Γ b y)):Ck (SimET G C d sc Γ (.cmp a o b) x) :=
 wCmp x fun y qs zs p=>w1 qs fun q=>w1 zs fun z=>wq (cmpOf o) q ((ra y).bind fun g1=>(rb z).bind fun g2=>wb (!behindInMarks (cmpOf o) z) fun h=>.yes ⟨rfl,rfl,sim_cmp (Bool.not_eq_true' _ ▸ h) g1.e g2.e,simT_cmp (Bool.not_eq_true' _ ▸ h) g1.e g2.e⟩)
noncomputable def kCmp2 (H:Hyp G N C d) {a:E}{o:Cop}{b:E}{o2:Cop}{c:E} (sc:Sc) (Γ:Gam) (x:PySem.Expr) (ra:∀ y,Ck (SimET G C d sc Γ a y)) (rb:∀ y,Ck (SimET G C d sc Γ b y)) (rc:∀ y,Ck (SimET G C d sc Γ c y)):Ck (SimET G C d sc Γ (.cmp2 a o b o2 c) x) :=
 wCmp x fun y qs zs p=>w2 qs fun q r=>w2 zs fun z u=>wq (cmpOf o) q (wq (cmpOf o2) r ((ra y).bind fun g1=>(rb z).bind fun g2=>(rc u).bind fun g3 =>
   wb (!behindInMarks (cmpOf o2) u) fun h=>.yes ⟨rfl,rfl,sim_cmp2 (Bool.not_eq_true' _ ▸ h) g1.e g2.e g3.e,simT_cmp2 (Bool.not_eq_true' _ ▸ h) g1.e g2.e g3.e⟩))
noncomputable def kIsC (H:Hyp G N C d) {n:Bool}{a:E}{v:V} (sc:Sc) (Γ:Gam) (x:PySem.Expr) (ra:∀ y,Ck (SimET G C d sc Γ a y)):Ck (SimET G C d sc Γ (.isC n a v) x) :=
 wCmp x fun y qs zs p=>w1 qs fun q=>w1 zs fun z=>(ra y).bind fun g1=>wb (isNot q n) fun h2=>(match v with
   | .none=>wK .none z fun k p=>.yes ⟨rfl,rfl,sim_isN h2 g1.e,simT_isN h2 g1.e⟩
   | .bool b=>wK (.bool b) z fun k p=>.yes ⟨rfl,rfl,sim_isB h2 g1.e,simT_isB h2 g1.e⟩
   | _=>.no)
noncomputable def kTup (H:Hyp G N C d) {l:List E} (sc:Sc) (Γ:Gam) (x:PySem.Expr) (rl:∀ m,Ck (SimLs G C d sc Γ l m)):Ck (SimET G C d sc Γ (.tup l) x) :=
 wTup x fun m k p=>(rl m).bind fun g=>.yes (simET rfl rfl rfl (sim_tup g.2.1))
noncomputable def kLst (H:Hyp G N C d) {l:List E} (sc:Sc) (Γ:Gam) (x:PySem.Expr) (rl:∀ m,Ck (SimLs G C d sc Γ l m)):Ck (SimET G C d sc Γ (.lst l) x) :=
 wList x fun m p=>(rl m).bind fun g=>.yes (simET rfl rfl rfl (sim_lst g.2.1))
noncomputable def kLstM (H:Hyp G N C d) {k0:Nat}{l:List E} (sc:Sc) (Γ:Gam) (x:PySem.Expr) (rl:∀ m,Ck (SimLs G C d sc Γ l m)):Ck (SimET G C d sc Γ (.lstM k0 l) x) :=
 wList x fun m p=>(rl m).bind fun g=>.yes (simET rfl rfl rfl (sim_lstM H.O g.2.1))
noncomputable def kSub (H:Hyp G N C d) {a:E}{b:E} (sc:Sc) (Γ:Gam) (x:PySem.Expr) (ra:∀ y,Ck (SimET G C d sc Γ a y)) (rb:∀ y,Ck (SimET G C d sc Γ b y)):Ck (SimET G C d sc Γ (.sub a b) x) :=
 wSub x fun y z p=>(ra y).bind fun g1=>(rb z).bind fun g2=>.yes (simET rfl rfl rfl (sim_sub g2.2.1 g1.e g2.e))
noncomputable def kSlice (H:Hyp G N C d) {a:E}{lo:Option E}{hi:Option E} (sc:Sc) (Γ:Gam) (x:PySem.Expr) (ra:∀ y,Ck (SimET G C d sc Γ a y)) (rlo:∀ m,Ck (SimO G C d sc Γ lo m)) (rhi:∀ m,Ck (SimO G C d sc Γ hi m)):Ck (SimET G C d sc Γ (.slice a lo hi) x) :=
 wSub x fun y z p=>(ra y).bind fun g1=>wSlice z fun l u st ps=>wn st ((rlo l).bind fun g2=>(rhi u).bind fun g3=>.yes (simET rfl rfl rfl (sim_slice g1.e g2 g3)))
noncomputable def kAttr (H:Hyp G N C d) {a:E}{i:Nat} (sc:Sc) (Γ:Gam) (x:PySem.Expr) (ra:∀ y,Ck (SimET G C d sc Γ a y)):Ck (SimET G C d sc Γ (.attr a i) x) :=
 wAttr x fun y n p=>wq (N.attr i) n (wb (decide (i < 13)) fun h2=>wb (notSuper y) fun h3=>(ra y).bind fun g=>.yes (ck_attr H h2 h3 g))
noncomputable def kCall (H:Hyp G N C d) {f:Nat}{l:List E} (sc:Sc) (Γ:Gam) (x:PySem.Expr) (rl:∀ m,Ck (SimLs G C d sc Γ l m)):Ck (SimET G C d sc Γ (.call f l) x) :=
 wCallN x (N.fn f) fun np m p=>wb (glob sc (N.fn f)) fun h2=>wb (!(N.fn f == Str.empty)) fun h3=>(rl m).bind fun g=>wk (ckCall H f) fun hq=>.yes (simET rfl rfl rfl (sim_call H.O hq H.hfn (not_empty h3) h2 g.2.2.1 g.2.2.2 g.2.1))
noncomputable def kMeth (H:Hyp G N C d) {a:E}{k:Nat}{l:List E} (sc:Sc) (Γ:Gam) (x:PySem.Expr) (ra:∀ y,Ck (SimET G C d sc Γ a y)) (rl:∀ m,Ck (SimLs G C d sc Γ l m)):Ck (SimET G C d sc Γ (.meth a k l) x) :=
 wCallA x (N.meth k) fun y ap m p q1 q2 q3=>(ra y).bind fun g=>(rl m).bind fun g1=>wb d.q fun hq=>.yes (simET rfl rfl rfl (sim_meth H.O (H.CO hq) H.hcl H.hme q1 q2 q3 g1.2.2.1 g1.2.2.2 g.e g1.2.1))
noncomputable def kNew (H:Hyp G N C d) {c:Nat}{l:List E} (sc:Sc) (Γ:Gam) (x:PySem.Expr) (rl:∀ m,Ck (SimLs G C d sc Γ l m)):Ck (SimET G C d sc Γ (.new c l) x) :=
 wCallN x (N.cls c) fun np m p=>wb (glob sc (N.cls c)) fun h2=>(rl m).bind fun g=>wb d.q fun hq=>.yes (simET rfl rfl rfl (sim_new H.O (H.CO hq) H.hne h2 g.2.2.1 g.2.2.2 g.2.1))
noncomputable def kIsinst (H:Hyp G N C d) {a:E}{ks:List Kind} (sc:Sc) (Γ:Gam) (x:PySem.Expr) (ra:∀ y,Ck (SimET G C d sc Γ a y)):Ck (SimET G C d sc Γ (.isinst a ks) x) :=
 wCallN x "isinstance" fun np m p=>wb (glob sc "isinstance") fun h2=>w2 m fun y z=>(ra y).bind fun g=>ckKs H sc Γ ks np y z p g h2
noncomputable def kIsX (H:Hyp G N C d) {a:E}{k:Nat} (sc:Sc) (Γ:Gam) (x:PySem.Expr) (ra:∀ y,Ck (SimET G C d sc Γ a y)):Ck (SimET G C d sc Γ (.isX a k) x) :=
 wCallN x "isinstance" fun np m p=>wb (glob sc "isinstance") fun h2=>w2 m fun y z=>wName z fun yn yp=>wb (glob sc yn) fun h3=>wb ((decide (k=0) && yn == ("ValueError":PySem.Str)) || N.xs.contains (yn,k)) fun h4=>(ra y).bind fun g=>.yes (ck_isX H h2 h3 h4 g)
noncomputable def kPrim (H:Hyp G N C d) {q:Prim}{l:List E} (sc:Sc) (Γ:Gam) (x:PySem.Expr) (rl:∀ m,Ck (SimLs G C d sc Γ l m)):Ck (SimET G C d sc Γ (.prim q l) x) :=
 wCallN x (primName q) fun np m p=>wb d.q fun hq=>wb (glob sc (primName q)) fun h2=>(rl m).bind fun g=>.yes (simET rfl rfl rfl (sim_primA hq H.O h2 g.2.2.1 g.2.2.2 g.2.1))
noncomputable def kListM (H:Hyp G N C d) {k0:Nat}{a:E} (sc:Sc) (Γ:Gam) (x:PySem.Expr) (ra:∀ y,Ck (SimET G C d sc Γ a y)):Ck (SimET G C d sc Γ (.listM k0 a) x) :=
 wCallN x "list" fun np m p=>wb (glob sc "list") fun h2=>w1 m fun y=>(ra y).bind fun g=>.yes (simET rfl rfl rfl (sim_listM H.O h2 g.1 g.e))
noncomputable def kDictC (H:Hyp G N C d) {k0:Nat}{a:E} (sc:Sc) (Γ:Gam) (x:PySem.Expr) (ra:∀ y,Ck (SimET G C d sc Γ a y)):Ck (SimET G C d sc Γ (.dictC k0 a) x) :=
 wCallN x "dict" fun np m p=>wb (glob sc "dict") fun h2=>w1 m fun y=>(ra y).bind fun g=>.yes (simET rfl rfl rfl (sim_dictC H.O h2 g.1 g.e))
noncomputable def kBm (H:Hyp G N C d) {b:Bm}{a:E}{l:List E} (sc:Sc) (Γ:Gam) (x:PySem.Expr) (ra:∀ y,Ck (SimET G C d sc Γ a y)) (rl:∀ m,Ck (SimLs G C d sc Γ l m)):Ck (SimET G C d sc Γ (.bm b a l) x) :=
 wCallA x (bmName b) fun y ap m p q1 q2 q3=>wb (bmUse b) fun h2=>(ra y).bind fun g=>(rl m).bind fun g1=>.yes (simET rfl rfl rfl (sim_bm H.O h2 q1 q2 q3 g1.2.2.1 g1.2.2.2 g.e g1.2.1))
noncomputable def kComp (H:Hyp G N C d) {k0:Option Nat}{slot:Nat}{range:Bool}{it:E}{cond:Option E}{elt:E} (sc:Sc) (Γ:Gam) (x:PySem.Expr) (rit:∀ y,Ck (SimET G C d sc Γ it y)) (rcond:∀ sc Γ m,Ck (CondSim G C d sc Γ cond m)) (re:∀ sc Γ x,Ck (SimET G C d sc Γ elt x)):Ck (SimET G C d sc Γ (.comp k0 slot range it cond elt) x) :=
 wComp1 (slot:=slot) (range:=range) x rit rcond re fun e i y px ifs scope pos K=>wb d.q fun hq=>.yes (ck_comp hq H K)
mutual
noncomputable def ckE (H:Hyp G N C d):(e:E)→(sc:Sc)→(Γ:Gam)→(x:PySem.Expr)→Ck (SimET G C d sc Γ e x)
 | .none,sc,Γ,x=>wK .none x fun k p=>.yes (simET rfl rfl rfl sim_none)
 | .bool b,sc,Γ,x=>wK (.bool b) x fun k p=>.yes (simET rfl rfl rfl sim_bool)
 | .int i,sc,Γ,x=>wK (.int i) x fun k p=>.yes (simET rfl rfl rfl sim_int)
 | .str l,sc,Γ,x=>wK (.str (toStr l)) x fun k p=>.yes (simET rfl rfl rfl sim_str)
 | .loc i,sc,Γ,x=>kLoc H sc Γ x
 | .gint g i,sc,Γ,x=>kGint H sc Γ x
 | .gstr g i,sc,Γ,x=>kGstr H sc Γ x
 | .neg a,sc,Γ,x=>kNeg H sc Γ x (ckE H a sc Γ)
 | .not a,sc,Γ,x=>kNot H sc Γ x (ckE H a sc Γ)
 | .and l,sc,Γ,x=>kAnd H sc Γ x (ckEs H l sc Γ)
 | .or l,sc,Γ,x=>kOr H sc Γ x (ckEs H l sc Γ)
 | .bin o a b,sc,Γ,x=>kBin H sc Γ x (ckE H a sc Γ) (ckE H b sc Γ)
 | .cmp a o b,sc,Γ,x=>kCmp H sc Γ x (ckE H a sc Γ) (ckE H b sc Γ)
 | .cmp2 a o b o2 c,sc,Γ,x=>kCmp2 H sc Γ x (ckE H a sc Γ) (ckE H b sc Γ) (ckE H c sc Γ)
 | .isC n a v,sc,Γ,x=>kIsC H sc Γ x (ckE H a sc Γ)
 | .tup l,sc,Γ,x=>kTup H sc Γ x (ckEs H l sc Γ)
 | .lst l,sc,Γ,x=>kLst H sc Γ x (ckEs H l sc Γ)
 | .lstM _ l,sc,Γ,x=>kLstM H sc Γ x (ckEs H l sc Γ)
 | .dictM _ ks l,sc,Γ,x=>wDict x fun m m' p=>w0 m (w0 m' (match ks,l with
   | [],[]=>.yes (simET rfl rfl rfl (sim_dict0 H.O))
   | _,_=>.no))
 | .sub a b,sc,Γ,x=>kSub H sc Γ x (ckE H a sc Γ) (ckE H b sc Γ)
 | .slice a lo hi,sc,Γ,x=>kSlice H sc Γ x (ckE H a sc Γ) (ckO H lo sc Γ) (ckO H hi sc Γ)
 | .attr a i,sc,Γ,x=>kAttr H sc Γ x (ckE H a sc Γ)
 | .call f l,sc,Γ,x=>kCall H sc Γ x (ckEs H l sc Γ)
 | .meth a k l,sc,Γ,x=>kMeth H sc Γ x (ckE H a sc Γ) (ckEs H l sc Γ)
 | .new c l,sc,Γ,x=>kNew H sc Γ x (ckEs H l sc Γ)
 | .isinst a ks,sc,Γ,x=>kIsinst H sc Γ x (ckE H a sc Γ)
 | .isX a k,sc,Γ,x=>kIsX H sc Γ x (ckE H a sc Γ)
 | .prim q l,sc,Γ,x=>kPrim H sc Γ x (ckEs H l sc Γ)
 | .listM _ a,sc,Γ,x=>kListM H sc Γ x (ckE H a sc Γ)
 | .dictC _ a,sc,Γ,x=>kDictC H sc Γ x (ckE H a sc Γ)
 | .bm b a l,sc,Γ,x=>kBm H sc Γ x (ckE H a sc Γ) (ckEs H l sc Γ)
 | .comp _ slot range it cond elt,sc,Γ,x=>kComp H sc Γ x (ckE H it sc Γ) (ckIf H cond) (ckE H elt)
noncomputable def ckIf (H:Hyp G N C d):(e:Option E)→(sc:Sc)→(Γ:Gam)→(m:List PySem.Expr)→Ck (CondSim G C d sc Γ e m)
 | none,sc,Γ,m=>w0 m (.yes .none)
 | some c,sc,Γ,m=>w1 m fun x=>(ckE H c sc Γ x).bind fun g=>.yes (.some g.t)
noncomputable def ckO (H:Hyp G N C d):(e:Option E)→(sc:Sc)→(Γ:Gam)→(m:Option PySem.Expr)→Ck (SimO G C d sc Γ e m)
 | none,sc,Γ,m=>wn m (.yes simO_none)
 | some c,sc,Γ,m=>ws m fun x=>(ckE H c sc Γ x).bind fun g=>.yes (simO_some g.e)
noncomputable def ckEs (H:Hyp G N C d):(l:List E)→(sc:Sc)→(Γ:Gam)→(m:List PySem.Expr)→Ck (SimLs G C d sc Γ l m)
 | [],sc,Γ,m=>w0 m (.yes ⟨.nil,sim_es_nil,rfl,rfl⟩)
 | e :: l,sc,Γ,m=>wc m fun x r=>(ckE H e sc Γ x).bind fun g1=>(ckEs H l sc Γ r).bind fun g2=>.yes (ls_cons g1 g2)
end
end
end Mine
end
section
namespace Mine
open PySem PySem.W PyProof.Rows
noncomputable def gamOk (Γ:Gam):Bool:=decide ((Γ.filterMap id).Nodup)
theorem gam_mem:∀ (Γ:Gam) (i:Nat) (y:PySem.Str),Γ[i]?=some (some y)→y∈Γ.filterMap id
 | [],i,y,h=>by simp at h
 | a :: Γ,0,y,h=>by simp at h; subst h; simp
 | a :: Γ,i + 1,y,h=>by
  simp only [List.getElem?_cons_succ] at h
  have:=gam_mem Γ i y h
  cases a with
  | none=>simpa using this
  | some z=>simp only [List.filterMap_cons,id]; exact List.mem_cons_of_mem _ this
theorem gamOk_inj:∀ (Γ:Gam),gamOk Γ=true→GamInj Γ
 | [],h=>by intro i j y h; simp at h
 | a :: Γ,h=>by
  have hn:(List.filterMap id (a :: Γ)).Nodup:=by simpa [gamOk] using h
  have h':GamInj Γ:=gamOk_inj Γ (by
   cases a with
   | none=>simpa [gamOk] using hn
   | some z=>simp only [List.filterMap_cons,id] at hn; simpa [gamOk] using (List.nodup_cons.1 hn).2)
  intro i j y hi hj
  match i,j with
  | 0,0=>rfl
  | i + 1,j + 1=>
   simp only [List.getElem?_cons_succ] at hi hj
   exact congrArg Nat.succ (h' i j y hi hj)
  | 0,j + 1 =>
   simp at hi; subst hi
   simp only [List.getElem?_cons_succ] at hj
   simp only [List.filterMap_cons,id] at hn
   exact ((List.nodup_cons.1 hn).1 (gam_mem Γ j y hj)).elim
  | i + 1,0 =>
   simp at hj; subst hj
   simp only [List.getElem?_cons_succ] at hi
   simp only [List.filterMap_cons,id] at hn
   exact ((List.nodup_cons.1 hn).1 (gam_mem Γ i y hi)).elim
section
variable {P:Stmt→Type} [∀ x,No (P x)]
@[elab_as_elim] noncomputable def vExpr (x:Stmt) (f:∀ y p,P (.Expr y p)):P x:=wb (Nat.beq x.ctorIdx 24) fun h=>PySem.Stmt.Expr.elim x (Nat.eq_of_beq_eq_true h) f
@[elab_as_elim] noncomputable def vAssign (x:Stmt) (f:∀ t e p,P (.Assign t e p)):P x:=wb (Nat.beq x.ctorIdx 5) fun h=>PySem.Stmt.Assign.elim x (Nat.eq_of_beq_eq_true h) f
@[elab_as_elim] noncomputable def vIf (x:Stmt) (f:∀ c a b p,P (.If c a b p)):P x:=wb (Nat.beq x.ctorIdx 12) fun h=>PySem.Stmt.If.elim x (Nat.eq_of_beq_eq_true h) f
@[elab_as_elim] noncomputable def vFor (x:Stmt) (f:∀ t i b o p,P (.For t i b o p)):P x:=wb (Nat.beq x.ctorIdx 9) fun h=>PySem.Stmt.For.elim x (Nat.eq_of_beq_eq_true h) f
@[elab_as_elim] noncomputable def vWhile (x:Stmt) (f:∀ c b o p,P (.While c b o p)):P x:=wb (Nat.beq x.ctorIdx 11) fun h=>PySem.Stmt.While.elim x (Nat.eq_of_beq_eq_true h) f
@[elab_as_elim] noncomputable def vRet (x:Stmt) (f:∀ e p,P (.Return e p)):P x:=wb (Nat.beq x.ctorIdx 3) fun h=>PySem.Stmt.Return.elim x (Nat.eq_of_beq_eq_true h) f
@[elab_as_elim] noncomputable def vTry (x:Stmt) (f:∀ b h o e p,P (.Try b h o e p)):P x:=wb (Nat.beq x.ctorIdx 17) fun h=>PySem.Stmt.Try.elim x (Nat.eq_of_beq_eq_true h) f
@[elab_as_elim] noncomputable def vRaise (x:Stmt) (f:∀ e c p,P (.Raise e c p)):P x:=wb (Nat.beq x.ctorIdx 16) fun h=>PySem.Stmt.Raise.elim x (Nat.eq_of_beq_eq_true h) f
@[elab_as_elim] noncomputable def vSet (x:Stmt) (f:∀ t e p,P (.Assign [t] e p)):P x:=vAssign x fun ts e p=>w1 ts fun t=>f t e p
end
section
variable {G:Gd}{N:Names}{C:Calls}{d:Dp}{n:Nat}{sc:Sc}{Γ:Gam}
noncomputable def ckT (H:Hyp G N C d) (t:T) (x:PySem.Expr):Ck (TgtOk G C d sc Γ t x):=match t with
 | .loc i=>wName x fun y p=>wb (Γ[i]? == some (some y)) fun h1=>wb (kindOk sc y) fun h2=>.yes (.loc (eq_of_beq h1) h2)
 | .item a b=>wSub x fun y z p=>wk (ckE H a sc Γ y) fun g1=>wk (ckE H b sc Γ z) fun g2=>.yes (.item g1.e g2.e)
noncomputable def ckTs (H:Hyp G N C d):(l:List T)→(m:List PySem.Expr)→Ck (TgtsOk G C d sc Γ l m)
 | [],m=>w0 m (.yes .nil)
 | t :: l,m=>wc m fun x r=>wk (ckT H t x) fun h1=>wk (ckTs H l r) fun h2=>.yes (.cons h1 h2)
noncomputable def ckFor (H:Hyp G N C d) (t:T ⊕ List T) (x:PySem.Expr):Ck (ForTgt G C d sc Γ t x):=match t with
 | .inl t=>wk (ckT H t x) fun h=>.yes (.one h)
 | .inr ts=>wTup x fun m k p=>wk (ckTs H ts m) fun h=>.yes (.many h)
theorem s_setattr (H:Hyp G N C d) {a b:E}{i:Nat}{y z:PySem.Expr}{ap p:Pos} (h2:decide (i < 13)=true) (g1:SimET G C d sc Γ a y) (g2:SimET G C d sc Γ b z) :
  SimS G C d sc Γ n (.setattr a i b) (.Assign [.Attribute y (N.attr i) ap] z p):=by
 rw [show N.attr i=G.an i from congrFun H.O.attr i]
 exact simS_setattr H.O H.hcl (of_decide_eq_true h2) g1.e g2.e
theorem s_for (hq:d.q=true) (H:Hyp G N C d) (gi:GamInj Γ) {ts:T ⊕ List T}{range:Bool}{it:E}{body:List S}{y i:PySem.Expr}{m:List Stmt}{p:Pos} (h1:ForTgt G C d sc Γ ts y) (h2:notSet i=true) (h3:ItOk' G C d sc Γ range it i) (h:SimB G C d sc Γ n body m) :
  SimS G C d sc Γ n (.for_ ts range it body) (.For y i m [] p):=by
 obtain ⟨j,h4,h5⟩:=h3
 exact simS_for hq H.O gi h1 h2 h4 h5 h
@[elab_as_elim] noncomputable def wHand {P:ExceptHandler→Type} [∀ x,No (P x)] (x:ExceptHandler) (f:∀ t n b p,P (.ExceptHandler t n b p)):P x:=match x with | .ExceptHandler t n b p=>f t n b p
theorem q_meth (hq:d.q=true) (H:Hyp G N C d) {a:E}{k:Nat}{l:List E}{x:PySem.Expr}{m:List PySem.Expr}{ap cp:Pos} (q1:notSuper x=true) (q2:(ap.endLine == cp.line)=true) (q3:m.length < 30) (ga:SimET G C d sc Γ a x) (gl:SimLs G C d sc Γ l m) (h1:N.xm k=true) :
  SimEX G C d sc Γ (.meth a k l) (.Call (.Attribute x (N.meth k) ap) m [] cp):=simEX_meth H.O (H.CX hq) gl.2.2.1 gl.2.2.2 gl.2.1 H.hcl H.hme q1 q2 q3 ga.e fun c f e=>H.xm k c f h1 e
noncomputable def ckQ (H:Hyp G N C d) (q:E) (x:PySem.Expr):Ck (SimEX G C d sc Γ q x):=wb d.q fun hq=>match q with
 | .call f l=>wCallN x (N.fn f) fun np m cp=>wk (ckEs H l sc Γ m) fun gl=>wb (N.xf f) fun h1=>wb (glob sc (N.fn f)) fun h6=>wb (!(N.fn f == Str.empty)) fun h7=>.yes (simEX_call H.O (H.CX hq) gl.2.2.1 gl.2.2.2 gl.2.1 H.hfn h1 (not_empty h7) h6)
 | .meth a k l=>wCallA x (N.meth k) fun z ap m cp q1 q2 q3=>wk (ckE H a sc Γ z) fun ga=>wk (ckEs H l sc Γ m) fun gl=>wb (N.xm k) fun h1=>.yes (q_meth hq H q1 q2 q3 ga gl h1)
 | .new c l=>wCallN x (N.cls c) fun np m cp=>wk (ckEs H l sc Γ m) fun gl=>wb (N.xm (1000 + c)) fun h1=>wb (glob sc (N.cls c)) fun h6=>.yes (simEX_new H.O (H.CX hq) gl.2.2.1 gl.2.2.2 gl.2.1 H.hne h6 fun k f e=>H.xn c k f h1 e)
 | _=>.no
noncomputable def ckHn (i:Option Nat) (nm:Option PySem.Str):Ck (HandN sc Γ i nm):=match i with
 | some i=>ws nm fun nn=>wb (Γ[i]? == some (some nn)) fun h4=>wb (sc.lookup nn == some .local) fun h5=>.yes (.named (eq_of_beq h4) (eq_of_beq h5))
 | none=>wn nm (.yes .bare)
noncomputable def ckHb (H:Hyp G N C d) (gi:GamInj Γ):(b:List S)→(m:List Stmt)→Ck (SimB G C d sc Γ n b m)
 | [],m=>w0 m (.yes simB_nil)
 | s :: l,m=>wc m fun x r=>wk (ckHb H gi l r) fun g=>match s with
  | .assign i a=>vSet x fun t z p=>wName t fun y yp=>wb (Γ[i]? == some (some y)) fun h1=>wb (kindOk sc y) fun h2=>wb (notComp z) fun h3=>wk (ckE H a sc Γ z) fun h=>.yes (simB_cons (simS_assign gi (eq_of_beq h1) h2 h3 h.e) g)
  | .ret (some a)=>vRet x fun y p=>ws y fun z=>wk (ckE H a sc Γ z) fun h=>.yes (simB_cons (simS_ret h.e) g)
  | _=>.no
theorem s_tryX (H:Hyp G N C d) (gi:GamInj Γ) {q:E}{c:Nat}{i:Option Nat}{x:PySem.Expr}{ep hp hpos tpos:Pos}{hn:PySem.Str}{nm:Option PySem.Str}{b:List S}{b0:Stmt}{suite:List Stmt}{hs:List ExceptHandler}
  (h0:notComp x=true) (he:SimET G C d sc Γ q x) (hx:SimEX G C d sc Γ q x) (h2:N.xs.contains (hn,c)=true) (h3:glob sc hn=true) (hh:HandN sc Γ i nm) (gr:SimB G C ⟨d.n,false⟩ sc Γ n b (b0 :: suite)) :
  SimS G C d sc Γ n (.tryX q c i b) (.Try [.Expr x ep] (.ExceptHandler (some (.Name hn hp)) nm (b0 :: suite) hpos :: hs) [] [] tpos) :=
 simS_tryX H.O gi h0 he.e hx (H.xw hn c h2).2 h3 (fun c' e1 e2=>(H.xk c' c e1 e2).2 (H.xw hn c h2).1) hh gr
theorem s_forX (hq:d.q=true) (H:Hyp G N C d) (gi:GamInj Γ) {ts:T ⊕ List T}{range:Bool}{it:E}{body:List S}{y i:PySem.Expr}{m:List Stmt}{p:Pos} (h1:ForTgt G C d sc Γ ts y) (h2:notSet i=true) (h3:ItOk' G C d sc Γ range it i) (h:SimB G C d sc Γ n body m) (hx:SimXB G C d sc Γ n body m) :
  SimX G C d sc Γ n (.for_ ts range it body) (.For y i m [] p):=by
 obtain ⟨j,h4,h5⟩:=h3
 exact simX_for hq H.O gi h1 h2 h4 h5 h hx
theorem simS_raise {c:Nat}{x:Stmt}:SimS G C d sc Γ n (.raise c) x:=by
 intro t st s env loc fl loc' st' A hA hT hsc F R e
 cases e
mutual
noncomputable def ckS (H:Hyp G N C d) (gi:GamInj Γ):(s:S)→(x:Stmt)→Ck (SimS G C d sc Γ n s x)
 | .expr a,x=>vExpr x fun y p=>wb (notComp y) fun h1=>wk (ckE H a sc Γ y) fun h=>.yes (simS_expr h1 h.e)
 | .assign i a,x=>vSet x fun t z p=>wName t fun y yp=>wb (Γ[i]? == some (some y)) fun h1=>wb (kindOk sc y) fun h2=>(wb (notComp z) fun h3=>wk (ckE H a sc Γ z) fun h=>.yes (simS_assign gi (eq_of_beq h1) h2 h3 h.e))
 | .setattr a i b,x=>vSet x fun t z p=>wAttr t fun y nm ap=>wq (N.attr i) nm (wb (decide (i < 13)) fun h2=>wk (ckE H a sc Γ y) fun g1=>wk (ckE H b sc Γ z) fun g2=>.yes (s_setattr H h2 g1 g2))
 | .setitem a b c,x=>vSet x fun t z p=>wSub t fun y u ap=>wb (notComp z) fun h1=>wk (ckE H a sc Γ y) fun g1=>wk (ckE H b sc Γ u) fun g2=>wk (ckE H c sc Γ z) fun g3=>.yes (simS_setitem h1 g1.e g2.e g3.e)
 | .unpack ts a,x=>.no
 | .ite c b1 b2,x=>vIf x fun y m1 m2 p=>wk (ckE H c sc Γ y) fun g=>wk (ckB H gi b1 m1) fun g1=>wk (ckB H gi b2 m2) fun g2=>.yes (simS_ite g.t g1 g2)
 | .for_ ts range it body,x=>vFor x fun y i m o p=>w0 o (wk (ckFor H ts y) fun h1=>wb (notSet i) fun h2=>wk (ckIt range i (ckE H it sc Γ)) fun h3=>wk (ckB H gi body m) fun h=>wb d.q fun hq=>.yes (s_for hq H gi h1 h2 h3 h))
 | .while_ c body,x=>vWhile x fun y m o p=>w0 o (wk (ckE H c sc Γ y) fun g=>wk (ckB H gi body m) fun h=>.yes (simS_while g.t h))
 | .ret a,x=>vRet x fun y p=>(match a with
   | none=>wn y (.yes simS_ret0)
   | some a=>ws y fun z=>wk (ckE H a sc Γ z) fun g=>.yes (simS_ret g.e))
 | .raise _,x=>.yes simS_raise
 | .exprX q,x=>vExpr x fun y p=>wb (notComp y) fun h1=>wk (ckE H q sc Γ y) fun h=>.yes (simS_exprX (simS_expr h1 h.e))
 | .tryX q c i b,x=>vTry x fun bd hs o e tp=>w1 bd fun s0=>vExpr s0 fun y ep=>wc hs fun h hr=>wHand h fun ty nm hb hpos=>ws ty fun tn=>wName tn fun hn hp=>wc hb fun b0 suite=>w0 o (w0 e
     (wb (notComp y) fun h0=>wk (ckE H q sc Γ y) fun g=>wk (ckQ H q y) fun gx=>wb (N.xs.contains (hn,c)) fun h2=>wb (glob sc hn) fun h3=>wk (ckHn i nm) fun hh=>wk (ckHb H.quiet gi b (b0 :: suite)) fun gr=>.yes (s_tryX H gi h0 g gx h2 h3 hh gr)))
noncomputable def ckB (H:Hyp G N C d) (gi:GamInj Γ):(l:List S)→(m:List Stmt)→Ck (SimB G C d sc Γ n l m)
 | [],m=>w0 m (.yes simB_nil)
 | s :: l,m=>wc m fun x r=>wk (ckS H gi s x) fun g1=>wk (ckB H gi l r) fun g2=>.yes (simB_cons g1 g2)
end
theorem s_raiseX (hq:d.q=true) (H:Hyp G N C d) {c kk:Nat}{x:PySem.Str}{np kpos cpos pos:Pos}{z:PySem.Str} (h1:N.xs.contains (x,c)=true) (h2:glob sc x=true):SimX G C d sc Γ n (.raise c) (.Raise (some (.Call (.Name x np) [.Constant (.str z) kk kpos] [] cpos)) none pos):=by
 have e:z=toStr z.cps.toList:=by cases z; simp
 rw [e]
 exact simX_raise hq H.O (H.xw x c h1).2 h2
mutual
noncomputable def ckX (H:Hyp G N C d) (gi:GamInj Γ):(s:S)→(x:Stmt)→Ck (SimX G C d sc Γ n s x)
 | .expr _,x=>.yes simX_expr
 | .assign _ _,x=>.yes simX_assign
 | .setitem _ _ _,x=>.yes simX_setitem
 | .setattr _ _ _,x=>.yes simX_setattr
 | .exprX q,x=>vExpr x fun y p=>wb (notComp y) fun h1=>wk (ckQ H q y) fun h=>.yes (simX_exprX h1 h)
 | .for_ ts range it body,x=>vFor x fun y i m o p=>w0 o (wk (ckFor H ts y) fun h1=>wb (notSet i) fun h2=>wk (ckIt range i (ckE H it sc Γ)) fun h3=>wk (ckB H gi body m) fun h=>wk (ckXB H gi body m) fun hx=>wb d.q fun hq=>.yes (s_forX hq H gi h1 h2 h3 h hx))
 | .ret _,x=>.yes simX_ret
 | .ite c b1 b2,x=>vIf x fun y m1 m2 p=>wk (ckE H c sc Γ y) fun g=>wk (ckXB H gi b1 m1) fun g1=>wk (ckXB H gi b2 m2) fun g2=>.yes (simX_ite g.t g1 g2)
 | .raise c,x=>vRaise x fun e o p=>ws e fun y=>wCall y fun f l k cp=>wName f fun nm np=>w1 l fun z=>wConst z fun v kk kp=>wn o (w0 k (match v with
   | .str z=>wb (N.xs.contains (nm,c)) fun h1=>wb (glob sc nm) fun h2=>wb d.q fun hq=>.yes (s_raiseX hq H h1 h2)
   | _=>.no))
 | _,x=>.no
noncomputable def ckXB (H:Hyp G N C d) (gi:GamInj Γ):(l:List S)→(m:List Stmt)→Ck (SimXB G C d sc Γ n l m)
 | [],m=>.yes simXB_nil
 | s :: l,m=>wc m fun x r=>wk (ckS H gi s x) fun g0=>wk (ckX H gi s x) fun g1=>wk (ckXB H gi l r) fun g2=>.yes (simXB_cons g0 g1 g2)
end
end
end Mine
end
section
namespace Mine
open PySem PySem.W PyProof.Rows
theorem zip_lookup:∀ (names:List PySem.Str) (vals:List Value),vals.length=names.length→∀ x∈names,((names.zip vals).lookup x).isSome=true
 | [],vals,h,x,hx=>by simp at hx
 | a :: names,[],h,x,hx=>by simp at h
 | a :: names,v :: vals,h,x,hx=>by
  simp only [List.zip_cons_cons,List.lookup_cons]
  split
  ·rfl
  ·rename_i e
   refine zip_lookup names vals (by simpa using h) x ?_
   rcases List.mem_cons.1 hx with rfl | hx
   ·simp at e
   ·exact hx
theorem fm_congr {α β:Type}{f g:α→Option β}:∀ {l:List α},(∀ x∈l,f x=g x)→l.filterMap f=l.filterMap g
 | [],_=>rfl
 | x :: l,h=>by
  have ih:l.filterMap f=l.filterMap g:=fm_congr (l:=l) (fun y hy=>h y (by simp [hy]))
  simp only [List.filterMap_cons,h x (by simp),ih]
theorem zip_fm:∀ (names:List PySem.Str) (vals:List Value),vals.length=names.length→names.Nodup→names.filterMap (fun n=>((names.zip vals).lookup n).map (n,·))=names.zip vals
 | [],vals,h,nd=>by simp
 | a :: names,[],h,nd=>by simp at h
 | a :: names,v :: vals,h,nd=>by
  obtain ⟨h1,h2⟩:=List.nodup_cons.1 nd
  have ih:=zip_fm names vals (by simpa using h) h2
  simp only [List.zip_cons_cons,List.filterMap_cons,List.lookup_cons,beq_self_eq_true,Option.map_some]
  congr 1
  refine Eq.trans (fm_congr fun x hx=>?_) ih
  have:(x == a)=false:=by
   simp only [beq_eq_false_iff_ne]; rintro rfl; exact h1 hx
  simp only [this]
noncomputable def plainParams (fd:FuncData) (names:List PySem.Str):Bool :=
 fd.params.posonlyargs.isEmpty && fd.params.args.map (·.arg) == names && fd.params.kwonlyargs.isEmpty && fd.params.vararg.isNone && fd.params.kwarg.isNone && (match fd.defaults with | .none=>true | _=>false)
theorem bind_go {fd:FuncData} (vals:List Value) (h1:fd.params.posonlyargs=[]) (h3:fd.params.kwonlyargs=[]) (h4:fd.params.vararg=none) (h5:fd.params.kwarg=none) (h6:fd.defaults=.none)
  (hl:vals.length=(fd.params.args.map (·.arg)).length) (e1:((fd.params.args.map (·.arg)).filter fun n=>(((fd.params.args.map (·.arg)).zip vals).lookup n).isNone)=[])
  (e2:(fd.params.args.map (·.arg)).filterMap (fun n=>(((fd.params.args.map (·.arg)).zip vals).lookup n).map (n,·))=(fd.params.args.map (·.arg)).zip vals):bindArgs fd ⟨vals,[]⟩=pure ((fd.params.args.map (·.arg)).zip vals):=by
 obtain ⟨nm,q,⟨po,pa,va,ko,kd,kw,df⟩,body,sc,g,cl,ds,kds,doc,pm,an,cd,ct,bb⟩:=fd
 cases h1; cases h3; cases h4; cases h5; cases h6
 have hc1:¬ (decide (vals.length > (pa.map (·.arg)).length) && true)=true:=by
  have:¬ (vals.length > (pa.map (·.arg)).length):=by
   have hl:vals.length=(pa.map (·.arg)).length:=hl
   omega
  rw [decide_eq_false this]; exact Bool.noConfusion
 have hc2:¬ (!((pa.map (·.arg)).filter fun n=>(((pa.map (·.arg)).zip vals).lookup n).isNone).isEmpty)=true:=by
  have e1:((pa.map (·.arg)).filter fun n=>(((pa.map (·.arg)).zip vals).lookup n).isNone)=[]:=e1
  rw [e1]; exact Bool.noConfusion
 have ht:List.take (pa.map (·.arg)).length (pa.map (·.arg))=pa.map (·.arg):=List.take_length
 have hd:List.drop ((Option.getD (none:Option (Array Value)) #[]).toList.length - (pa.map (·.arg)).length) (Option.getD (none:Option (Array Value)) #[]).toList=[]:=List.drop_nil
 refine Eq.trans (if_neg hc1) (Eq.trans (if_neg ?_) ?_)
 ·intro h
  have h:(!((List.take ((pa.map (·.arg)).length - (List.drop ((Option.getD (none:Option (Array Value)) #[]).toList.length - (pa.map (·.arg)).length) (Option.getD (none:Option (Array Value)) #[]).toList).length) (pa.map (·.arg))).filter fun n=>(((pa.map (·.arg)).zip vals).lookup n).isNone).isEmpty)=true:=h
  rw [hd] at h
  have h:(!((List.take (pa.map (·.arg)).length (pa.map (·.arg))).filter fun n=>(((pa.map (·.arg)).zip vals).lookup n).isNone).isEmpty)=true:=h
  rw [ht] at h
  exact hc2 h
 ·have e2:(pa.map (·.arg)).filterMap (fun n=>(((pa.map (·.arg)).zip vals).lookup n).map (n,·))=(pa.map (·.arg)).zip vals:=e2
  clear hl e1 hc1 hc2
  simp only [List.map_nil,List.nil_append,hd,List.zip_nil_right,List.append_nil]
  exact congrArg (fun z=>(pure z:Sem (List (PySem.Str×Value)))) e2
theorem bind_plain {fd:FuncData}{names:List PySem.Str} (h:plainParams fd names=true) (nd:names.Nodup) (vals:List Value) (hl:vals.length=names.length):bindArgs fd ⟨vals,[]⟩=pure (names.zip vals):=by
 obtain ⟨h,h6⟩:=and_ok h
 obtain ⟨h,h5⟩:=and_ok h
 obtain ⟨h,h4⟩:=and_ok h
 obtain ⟨h,h3⟩:=and_ok h
 obtain ⟨h1,h2⟩:=and_ok h
 have h2:fd.params.args.map (·.arg)=names:=eq_of_beq h2
 subst h2
 refine bind_go vals (List.isEmpty_iff.1 h1) (List.isEmpty_iff.1 h3) (Option.isNone_iff_eq_none.1 h4) (Option.isNone_iff_eq_none.1 h5) ?_ hl ?_ (zip_fm _ vals hl nd)
 ·revert h6
  cases fd.defaults <;> first | exact fun _=>rfl | exact fun h=>Bool.noConfusion h
 ·rw [List.filter_eq_nil_iff]
  intro x hx e
  have:=zip_lookup _ vals hl x hx
  rw [Option.isNone_iff_eq_none.1 e] at this; exact no_ft this
set_option genCtorIdx false in
structure Stat (G:Gd) (N:Names):Prop where
 O:G.Ok N
 hcl:∀ c Ca,G.ca c=some Ca→ClsOk G Ca
 hfn:∀ f a,G.fa f=some a→FnOk G N f a
 hme:∀ c k f Ca,G.P.meths c k=some f→G.ca c=some Ca→∃ a,G.fa f=some a∧MethOk G Ca (N.meth k) a
 hne:∀ c k f,G.P.inits c=some (k,f)→∃ Ca fi,G.ca c=some Ca∧G.fa f=some fi∧NewOk G N c Ca fi
 xw:∀ y c,N.xs.contains (y,c)=true→c≠0∧OwnX G y c
 xk:∀ c k,(G.P.excBase c).contains c=true→(G.P.excBase c).contains k=true→kitOne G.K (.ref c) (xval k)=some true∧(k≠0→exmOne G.K (.ref c) (.ref k)=some true)
 xm:∀ k c f,N.xm k=true→G.P.meths c k=some f→N.xf f=true
 xn:∀ c k f,N.xm (1000 + c)=true→G.P.inits c=some (k,f)→N.xf f=true
 xi:∀ c k,(G.P.excBase c).contains c=true→(k=0∨∃ y,N.xs.contains (y,k)=true)→xcls G.K c=true∧kitOne G.K (.ref c) (xval k)=some ((G.P.excBase c).contains k)
noncomputable def ckFn (K:Frag) (N:Names) (fn:Fn) (a:Addr):Bool :=
 match K.lookup a with
 | some o=>(match o.data with
  | .func fd=>codeIn K fd.code fd.qualname && fd.closure.isEmpty && fd.globals == mainGlobals && fd.builtins == builtinsNs && fd.scope.kind == .function && !fd.scope.isCoroutine && !fd.scope.isGenerator &&
   plainParams fd (fn.names.take fn.np) && decide (fn.np≤fn.names.length) && (fn.names.take fn.np).all (fun x=>kindOk fd.scope.names x && !(x == Str.empty)) && decide (fn.names.take fn.np).Nodup && gamOk (gam0 fn) && (match fd.body with | .stmts _=>true | _=>false)
  | _=>false)
 | none=>false
noncomputable def fnBody (K:Frag) (a:Addr):Option (Sc×List Stmt):=(K.lookup a).bind fun o=>match o.data with
 | .func fd=>(match fd.body with
  | .stmts body=>some (fd.scope.names,body)
  | _=>none)
 | _=>none
noncomputable def bodyYes {G:Gd}{N:Names}{C:Calls}{d:Dp} (n:Nat) (H:Hyp G N C d) (fn:Fn) (p:Sc×List Stmt):Bool:=(wb (gamOk (gam0 fn)) fun hg=>ckB (sc:=p.1) (n:=n) H (gamOk_inj (gam0 fn) hg) fn.body p.2).isYes
noncomputable def ckBody (K:Frag) {G:Gd}{N:Names}{C:Calls}{d:Dp} (n:Nat) (H:Hyp G N C d) (fn:Fn) (a:Addr):Bool:=(fnBody K a).any (bodyYes n H fn)
noncomputable def xbodyYes {G:Gd}{N:Names}{C:Calls}{d:Dp} (n:Nat) (H:Hyp G N C d) (fn:Fn) (p:Sc×List Stmt):Bool:=(wb (gamOk (gam0 fn)) fun hg=>ckXB (sc:=p.1) (n:=n) H (gamOk_inj (gam0 fn) hg) fn.body p.2).isYes
noncomputable def ckXBody (K:Frag) {G:Gd}{N:Names}{C:Calls}{d:Dp} (n:Nat) (H:Hyp G N C d) (fn:Fn) (a:Addr):Bool:=(fnBody K a).any (xbodyYes n H fn)
theorem fnHd_of {G:Gd}{N:Names}{fn:Fn}{a:Addr} (h:ckFn G.K N fn a=true):∃ fd body,FnHd G fn a fd body∧fnBody G.K a=some (fd.scope.names,body):=by
 unfold ckFn at h; split at h
 ·rename_i o ho
  split at h
  ·rename_i fd hd
   simp only [Bool.and_eq_true,List.isEmpty_iff,beq_iff_eq,Bool.not_eq_true',decide_eq_true_eq,List.all_eq_true,beq_eq_false_iff_ne] at h
   obtain ⟨⟨⟨⟨⟨⟨⟨⟨⟨⟨⟨⟨h1,h2⟩,h3⟩,h4⟩,h5⟩,h6⟩,h7⟩,h8⟩,h9⟩,h10⟩,h11⟩,h12⟩,h13⟩:=h
   cases hy:fd.body with
   | stmts body =>
    have e:fnBody G.K a=some (fd.scope.names,body):=by unfold fnBody; rw [ho]; show (match o.data with | .func fd=>_ | _=>none)=_; rw [hd]; show (match fd.body with | .stmts body=>_ | _=>none)=_; rw [hy]
    exact ⟨fd,body,⟨o,ho,hd,h1,hy,h2,h3,h4,h5,h6,h7,fun vals hv=>bind_plain h8 h11 vals (by rw [hv,List.length_take]; lia),h9,h10,h11⟩,e⟩
   | _=>rw [hy] at h13; exact no_ft h13
  ·exact no_ft h
 ·exact no_ft h
theorem Stat.hyp {G:Gd}{N:Names} (S:Stat G N) {C:Calls}{n:Nat} (CA:CallsA G N.xf N.qf C n):Hyp G N C ⟨n,true⟩:=⟨S.O,fun _=>CA.ok,S.hcl,S.hfn,S.hme,S.hne,S.xw,S.xk,S.xm,S.xn,S.xi,fun _=>CA.x,CA.q⟩
theorem Stat.hypQ {G:Gd}{N:Names} (S:Stat G N) {C:Calls}{n:Nat} (CQ:CallsQ G C n N.qf):Hyp G N C ⟨n,false⟩:=⟨S.O,nofun,S.hcl,S.hfn,S.hme,S.hne,S.xw,S.xk,S.xm,S.xn,S.xi,nofun,CQ⟩
theorem fnRec_of {G:Gd}{N:Names}{q:Bool}{PX:Calls→Nat→Prop} (S:∀ C n,PX C n→Hyp G N C ⟨n,q⟩) {fn:Fn}{a:Addr} (h:ckFn G.K N fn a=true) (hb:∀ C n (H:Hyp G N C ⟨n,q⟩),ckBody G.K n H fn a=true):FnRec G q PX fn a:=by
 obtain ⟨fd,body,hd,e⟩:=fnHd_of h
 refine ⟨fd,body,hd,fun C n CA=>?_⟩
 have g:=hb C n (S C n CA)
 unfold ckBody at g; rw [e] at g
 exact Ck.get g
theorem fnX_of {G:Gd}{N:Names} (S:Stat G N) {fn:Fn}{a:Addr} (h:ckFn G.K N fn a=true) (hb:∀ C n (H:Hyp G N C ⟨n,true⟩),ckXBody G.K n H fn a=true):FnX G N.xf N.qf fn a:=by
 obtain ⟨fd,body,hd,e⟩:=fnHd_of h
 refine ⟨fd,body,hd,fun C n CA=>?_⟩
 have g:=hb C n (S.hyp CA)
 unfold ckXBody at g; rw [e] at g
 exact Ck.get g
end Mine
end
section
namespace Mine
theorem bits_small (y:Int) (h0:0≤y) (h:y < 18446744073709551616):intBits y≤64:=by
 unfold intBits
 split
 ·lia
 ·have h1:y.natAbs≠0:=by lia
  have:y.natAbs.log2 < 64:=(Nat.log2_lt h1).2 (by lia)
  lia
theorem b_mulL (x y:Int) (s:MS) (h0:0≤x) (h:x < 18446744073709551616):binOp .mul (.int x) (.int y) s=.ok (.int (x * y)) s :=
 if_pos (by rw [mulOk,decide_eq_true (bits_small x h0 h),Bool.true_or,Bool.true_or])
theorem b_str (x y:List Nat) (s:MS) (h:x.length + y.length≤16777216):binOp .add (.str x) (.str y) s=.ok (.str (x ++ y)) s:=if_pos h
theorem r_bind_ok {α β:Type} (a:α) (s:MS) (f:α→MS→Res β):(Res.ok a s).bind f=f a s:=rfl
theorem t_bool (b:Bool) (s:MS):truth (.bool b) s=.ok b s:=rfl
theorem idx_ok {i:Int}{n:Nat} (h0:0≤i) (h:i < n):idx i n=some i.toNat:=(if_pos h0).trans (if_pos h)
theorem i_str (x:List Nat) (i:Int) (s:MS) (h0:0≤i) (h:i < x.length) (g:x.length≤16777216):getItem (.str x) (.int i) s=.ok (.str [x[i.toNat]'(by lia)]) s:=by
 refine (if_pos g).trans ?_
 rw [idx_ok h0 h]
 show okV s ((x[i.toNat]?).map _)=_
 rw [List.getElem?_eq_getElem (by lia)]; rfl
theorem comp_map (s₀ s:MS) (range:Bool) (src:V) (slot:Nat) (elt:Loc→MS→Res V) (l:Loc) (f:V→V)
  (hs:stays s₀ s range src=true) :
  ∀ (xs acc:List V) ,(∀ x∈xs,elt (l.set slot (some x)) s=.ok (f x) s)→acc.length + xs.length≤sizeMax →
   compLoop s₀ range src slot none elt l acc xs s=.ok (acc ++ xs.map f) s
 | [],acc,h,g=>by simp [compLoop_nil,compLoop_cons,hs]
 | x :: r,acc,h,g=>by
  have ih:=comp_map s₀ s range src slot elt l f hs r (acc ++ [f x]) (fun y hy=>h y (by simp [hy])) (by simp at g ⊢; omega)
  have hx:=h x (by simp)
  have g':acc.length < sizeMax:=by simp at g; omega
  simp [compLoop_nil,compLoop_cons,hs,r_bind_ok,hx,g',ih]
theorem comp_fm (s₀ s:MS) (range:Bool) (src:V) (slot:Nat) (c elt:Loc→MS→Res V) (l:Loc) (p:V→Bool) (f:V→V) (hs:stays s₀ s range src=true) :
  ∀ (xs acc:List V),(∀ x∈xs,c (l.set slot (some x)) s=.ok (.bool (p x)) s)→(∀ x∈xs,p x=true→elt (l.set slot (some x)) s=.ok (f x) s)→acc.length + xs.length≤sizeMax →
   compLoop s₀ range src slot (some c) elt l acc xs s=.ok (acc ++ (xs.filter p).map f) s
 | [],acc,_,_,_=>by rw [List.filter_nil,List.map_nil,List.append_nil]; exact if_pos hs
 | x :: r,acc,h1,h2,g=>by
  have g1:acc.length < sizeMax:=by rw [List.length_cons] at g; lia
  refine (if_pos hs).trans ?_
  show Res.bind (Res.bind (c (l.set slot (some x)) s) truth) _=_
  rw [h1 x (List.mem_cons_self ..)]
  show (if p x=true then Res.bind (elt (l.set slot (some x)) s) (fun v s=>if acc.length < sizeMax then compLoop s₀ range src slot (some c) elt l (acc ++ [v]) r s else .stuck) else compLoop s₀ range src slot (some c) elt l acc r s)=_
  rw [List.filter_cons]
  cases hp:p x with
  | true =>
   rw [if_pos rfl,if_pos rfl,h2 x (List.mem_cons_self ..) hp]
   show (if acc.length < sizeMax then _ else _)=_
   rw [if_pos g1,comp_fm s₀ s range src slot c elt l p f hs r _ (fun y hy=>h1 y (List.mem_cons_of_mem _ hy)) (fun y hy=>h2 y (List.mem_cons_of_mem _ hy)) (by rw [List.length_append]; show acc.length + 1 + _≤_; rw [List.length_cons] at g; lia),List.append_assoc]
   rfl
  | false =>
   rw [if_neg Bool.false_ne_true,if_neg Bool.false_ne_true]
   exact comp_fm s₀ s range src slot c elt l p f hs r acc (fun y hy=>h1 y (List.mem_cons_of_mem _ hy)) (fun y hy=>h2 y (List.mem_cons_of_mem _ hy)) (by rw [List.length_cons] at g; lia)
theorem items_range (s:MS) (n:Int) (h0:0≤n) (h:n≤16777216):itemsOf s true (.int n)=some ((List.range n.toNat).map fun (i:Nat)=>.int i):=if_pos ⟨Int.le_trans (by decide) h0,h⟩
noncomputable def OkR {α:Type} (r:Res α) (Q:α→MS→Prop):Prop:=match r with
 | .ok a s=>Q a s
 | _=>False
theorem okr_ok {α:Type} (a:α) (s:MS) (Q:α→MS→Prop):OkR (.ok a s) Q=Q a s:=rfl
theorem okr_bnd {α β:Type} (r:Res α) (f:α→MS→Res β) (Q:β→MS→Prop):OkR (r.bnd f) Q=OkR r (fun a s=>OkR (f a s) Q):=by
 cases r <;> rfl
theorem okr_bind {α β:Type} (r:Res α) (f:α→MS→Res β) (Q:β→MS→Prop):OkR (r.bind f) Q=OkR r (fun a s=>OkR (f a s) Q):=by
 cases r <;> rfl
theorem okr_mono {α:Type}{r:Res α}{Q R:α→MS→Prop} (h:OkR r Q) (g:∀ a s,Q a s→R a s):OkR r R:=by
 cases r with
 | ok a s=>exact g a s h
 | _=>exact h.elim
theorem okr_elim {α:Type}{r:Res α}{Q:α→MS→Prop} (h:OkR r Q):∃ a s,r=.ok a s∧Q a s:=by
 cases r with
 | ok a s=>exact ⟨a,s,rfl,h⟩
 | _=>exact h.elim
theorem okr_of {α:Type}{r:Res α}{a:α}{s:MS}{Q:α→MS→Prop} (h:r=.ok a s) (k:Q a s):OkR r Q:=by rw [h]; exact k
theorem okr_eq {α:Type}{r:Res α}{a:α}{s:MS} (h:OkR r (fun b t=>b=a∧t=s)):r=.ok a s:=by
 cases r with
 | ok b t=>obtain ⟨rfl,rfl⟩:=h; rfl
 | _=>exact h.elim
noncomputable def flV:Fl→V
 | .ret v=>v
 | .next=>.none
theorem okr_run {P:Prog}{n f:Nat}{vs:List V}{s:MS}{fn:Fn}{Q:V→MS→Prop} (hf:P.fns f=some fn) (hl:vs.length=fn.np)
  (h:OkR (exs P (run P n) n fn.body (vs.map some ++ List.replicate (fn.names.length - fn.np) none) s) (fun p s=>Q (flV p.1) s)):OkR (run P (n + 1) f vs s) Q:=by
 simp only [run,hf,if_pos hl,okr_bind]
 exact h
noncomputable def seqQ (P:Prog) (C:Calls) (n:Nat) (r:List S) (Q:Fl×Loc→MS→Prop) (p:Fl×Loc) (s:MS):Prop :=
 match p.1 with
 | .next=>OkR (exs P C n r p.2 s) Q
 | .ret v=>Q (.ret v,p.2) s
theorem seqQ_next (P:Prog) (C:Calls) (n:Nat) (r:List S) (Q:Fl×Loc→MS→Prop) (l:Loc) (s:MS):seqQ P C n r Q (.next,l) s=OkR (exs P C n r l s) Q:=rfl
theorem okr_cons (P:Prog) (C:Calls) (n:Nat) (st:S) (r:List S) (l:Loc) (s:MS) (Q:Fl×Loc→MS→Prop) :
  OkR (exs P C n (st :: r) l s) Q=OkR (ex P C n st l s) (seqQ P C n r Q):=by
 simp only [exs_cons,okr_bind]
 congr 1
 funext p s
 obtain ⟨f,l⟩:=p
 cases f <;> rfl
theorem okr_forM {α β:Type}{s₀:MS}{range:Bool}{src:V}{tgt:V→Loc→MS→Res Loc}{body:Loc→MS→Res (Fl×Loc)}{Q:Fl×Loc→MS→Prop} (f:α→V) (L:β→Loc)
  (I:List α→β→MS→Prop)
  (hc:∀ x r y s,I (x :: r) y s→stays s₀ s range src=true∧OkR (tgt (f x) (L y) s) fun l s=>OkR (body l s) fun p s=>match p.1 with
   | .next=>∃ y,p.2=L y∧I r y s
   | .ret v=>Q (.ret v,p.2) s)
  (hn:∀ y s,I [] y s→stays s₀ s range src=true∧Q (.next,L y) s) :
  ∀ (xs:List α) (y:β) (s:MS),I xs y s→OkR (forLoop s₀ range src tgt body (xs.map f) (L y) s) Q
 | [],y,s,h=>by
  obtain ⟨h1,h2⟩:=hn y s h
  rw [List.map_nil,forLoop_nil,if_pos h1]
  exact h2
 | x :: r,y,s,h=>by
  obtain ⟨h1,h2⟩:=hc x r y s h
  rw [List.map_cons,forLoop_cons,if_pos h1,okr_bnd]
  refine okr_mono h2 fun l s h=>?_
  rw [okr_bind]
  refine okr_mono h fun p s h=>?_
  obtain ⟨g,l⟩:=p
  cases g with
  | next =>
   obtain ⟨y,rfl,h⟩:=h
   exact okr_forM f L I hc hn r y s h
  | ret v=>exact h
theorem okr_each {α β:Type}{s:MS}{range:Bool}{src:V}{tgt:V→Loc→MS→Res Loc}{body:Loc→MS→Res (Fl×Loc)}{Q:Fl×Loc→MS→Prop} (f:α→V) (L:β→Loc) (J:MS→Prop) {xs:List α}{y:β} (h:J s)
  (hs:∀ t,J t→stays s t range src=true)
  (hc:∀ x∈xs,∀ y t,J t→OkR (tgt (f x) (L y) t) fun l t=>OkR (body l t) fun p t=>p.1=.next∧(∃ y,p.2=L y)∧J t)
  (k:∀ y t,J t→Q (.next,L y) t):OkR (forLoop s range src tgt body (xs.map f) (L y) s) Q:=by
 refine okr_forM f L (fun r _ t=>(∀ x∈r,x∈xs)∧J t) (fun x r y t h=>⟨hs t h.2,okr_mono (hc x (h.1 x (List.mem_cons_self ..)) y t h.2) fun l t h2=>okr_mono h2 fun p t h3=>?_⟩) (fun y t h=>⟨hs t h.2,k y t h.2⟩) xs y s ⟨fun _ h=>h,h⟩
 rw [h3.1]
 obtain ⟨y,e⟩:=h3.2.1
 exact ⟨y,e,fun x hx=>h.1 x (List.mem_cons_of_mem _ hx),h3.2.2⟩
theorem okr_while {test:Loc→MS→Res V}{body:Loc→MS→Res (Fl×Loc)}{Q:Fl×Loc→MS→Prop}
  (I:Nat→Loc→MS→Prop)
  (hc:∀ k l s,I k l s→OkR (test l s) fun v s=>∃ b,v=.bool b∧(if b then 0 < k∧OkR (body l s) fun p s=>match p.1 with
    | .next=>I (k - 1) p.2 s
    | .ret v=>Q (.ret v,p.2) s
   else Q (.next,l) s)) :
  ∀ (n k:Nat) (l:Loc) (s:MS),k < n→I k l s→OkR (whileLoop test body n l s) Q
 | 0,k,l,s,hk,h=>by omega
 | n + 1,k,l,s,hk,h=>by
  have h1:=hc k l s h
  simp only [whileLoop,okr_bind,okr_bnd]
  refine okr_mono h1 fun v s h=>?_
  obtain ⟨b,rfl,h⟩:=h
  simp only [t_bool,okr_ok]
  cases b with
  | false=>exact h
  | true =>
   simp only [if_true,okr_bind,okr_bnd] at h ⊢
   obtain ⟨h0,h⟩:=h
   refine okr_mono h fun p s h=>?_
   obtain ⟨f,l⟩:=p
   cases f with
   | next=>exact okr_while I hc n (k - 1) l s (by omega) h
   | ret v=>exact h
theorem dfind_hit {k a v:V}{r:List (V×V)} (h:keyEq a k=true):dfind k ((a,v) :: r)=some v:=if_pos h
theorem dfind_miss {k a v:V}{r:List (V×V)} (h:keyEq a k=false):dfind k ((a,v) :: r)=dfind k r:=if_neg (by rw [h]; exact Bool.false_ne_true)
theorem dput_hit {k a v w:V}{r:List (V×V)} (h:keyEq a k=true):dput k v ((a,w) :: r)=(a,v) :: r:=if_pos h
theorem dput_miss {k a v w:V}{r:List (V×V)} (h:keyEq a k=false):dput k v ((a,w) :: r)=(a,w) :: dput k v r:=if_neg (by rw [h]; exact Bool.false_ne_true)
theorem dict_at {s:MS}{r:Lbl}{d:List (V×V)} (h:s.heap r=some (.dict d)):dictAt (.ref r) s=some (r,d):=by
 show (match s.heap r with | some (.dict l)=>some (r,l) | _=>none)=_
 rw [h]
theorem list_at {s:MS}{r:Lbl}{l:List V} (h:s.heap r=some (.list l)):listAt (.ref r) s=some (r,l):=by
 show (match s.heap r with | some (.list l)=>some (r,l) | _=>none)=_
 rw [h]
theorem setItem_dict (s:MS) (r:Lbl) (d:List (V×V)) (k:List Nat) (v:V) (h:s.heap r=some (.dict d)) (hl:d.length < 16777216) :
  setItem (.ref r) (.str k) v s=.ok () (s.put r (.dict (dput (.str k) v d))):=by
 rw [setItem,dict_at h]
 exact if_pos ⟨rfl,hl⟩
theorem append_at (s:MS) (r:Lbl) (l:List V) (v:V) (h:s.heap r=some (.list l)) (hl:l.length < 16777216) :
  bmeth .append (.ref r) [v] s=.ok .none (s.put r (.list (l ++ [v]))):=by
 show (match listAt (.ref r) s with | some p=>if p.2.length < sizeMax then Res.ok V.none (s.put p.1 (.list (p.2 ++ [v]))) else .stuck | none=>.stuck)=_
 rw [list_at h]
 exact if_pos hl
theorem i_dict (s:MS) (r:Lbl) (d:List (V×V)) (k:List Nat) (v:V) (h:s.heap r=some (.dict d)) (hk:dfind (.str k) d=some v) :
  getItem (.ref r) (.str k) s=.ok v s:=by
 show (match s.heap r with | some (.dict l)=>if (V.str k).isKey then okV s (dfind (.str k) l) else .stuck | _=>.stuck)=_
 rw [h]
 show okV s (dfind (.str k) d)=_
 rw [hk]; rfl
theorem zip_refl (f:V→V→Option Bool):∀ l:List V,(∀ x∈l,f x x=some true)→zipAll f l l=some true
 | [],_=>rfl
 | x :: r,h=>by
  have h1:=h x (by simp)
  have h2:=zip_refl f r (fun y hy=>h y (by simp [hy]))
  simp [zipAll,h1,h2]
noncomputable def st0:MS:=⟨fun _=>none,fun _=>0,0⟩
section
variable {P:Prog}{C:Calls}{n i:Nat}{e a b:E}{r:List S}{l:Loc}{s s':MS}{v w:V}{Q:Fl×Loc→MS→Prop}
theorem st_nil (k:Q (.next,l) s):OkR (exs P C n [] l s) Q:=k
theorem st_next (k:OkR (exs P C n r l s) Q):OkR (exs P C n [] l s) (seqQ P C n r Q):=k
theorem st_assign (hv:ev P C e l s=.ok v s') (hi:decide (i < l.length)=true) (k:OkR (exs P C n r (l.set i (some v)) s') Q):OkR (exs P C n (.assign i e :: r) l s) Q:=by
 have hi:=of_decide_eq_true hi
 rw [exs_cons,okr_bind,ex_assign,okr_bnd,hv]
 show OkR (if i < l.length then Res.ok (Fl.next,l.set i (some v)) s' else .stuck) _
 rw [if_pos hi]; exact k
theorem st_ret (hv:ev P C e l s=.ok v s') (k:Q (.ret v,l) s'):OkR (exs P C n (.ret (some e) :: r) l s) Q:=by
 rw [exs_cons,okr_bind,ex_ret]
 show OkR ((ev P C e l s).bnd _) _
 rw [hv]; exact k
theorem st_if {c:E}{b1 b2:List S}{t:Bool} (hc:ev P C c l s=.ok (.bool t) s') (k:OkR (exs P C n (if t then b1 else b2) l s') (seqQ P C n r Q)):OkR (exs P C n (.ite c b1 b2 :: r) l s) Q:=by
 rw [okr_cons,ex_ite,hc]
 cases t <;> exact k
noncomputable def Out {α:Type} (r:Res α) (Q:α→MS→Prop) (X:Nat→MS→Prop):Prop:=match r with
 | .ok a s=>Q a s
 | .exc c s=>X c s
 | .stuck=>False
theorem out_elim {α:Type}{r:Res α}{Q:α→MS→Prop}{X:Nat→MS→Prop} (h:Out r Q X):(∃ a s,r=.ok a s∧Q a s)∨∃ c s,r=.exc c s∧X c s:=by
 cases r with
 | ok a s=>exact .inl ⟨a,s,rfl,h⟩
 | exc c s=>exact .inr ⟨c,s,rfl,h⟩
 | stuck=>exact h.elim
theorem out_mono {α:Type}{r:Res α}{Q Q':α→MS→Prop}{X X':Nat→MS→Prop} (h:Out r Q X) (f:∀ a s,Q a s→Q' a s) (g:∀ c s,X c s→X' c s):Out r Q' X':=by
 cases r with
 | ok a s=>exact f a s h
 | exc c s=>exact g c s h
 | stuck=>exact h
theorem out_bind {α β:Type}{r:Res α}{f:α→MS→Res β}{Q:β→MS→Prop}{X:Nat→MS→Prop} (h:Out r (fun a s=>Out (f a s) Q X) X):Out (r.bind f) Q X:=by
 cases r with
 | ok a s=>exact h
 | exc c s=>exact h
 | stuck=>exact h
theorem out_bnd {α β:Type}{r:Res α}{f:α→MS→Res β}{Q:β→MS→Prop}{X:Nat→MS→Prop} (h:OkR r fun a s=>Out (f a s) Q X):Out (r.bnd f) Q X:=by
 cases r with
 | ok a s=>exact h
 | _=>exact h.elim
section
variable {X:Nat→MS→Prop}
theorem xt_nil (k:Q (.next,l) s):Out (exs P C n [] l s) Q X:=k
theorem xt_cons {st:S} (h:Out (ex P C n st l s) (fun p s=>match p.1 with | .next=>Out (exs P C n r p.2 s) Q X | .ret v=>Q (.ret v,p.2) s) X):Out (exs P C n (st :: r) l s) Q X:=by
 rw [exs_cons]
 refine out_bind (out_mono h (fun p s q=>?_) fun _ _ q=>q)
 obtain ⟨f,l⟩:=p
 cases f <;> exact q
theorem xt_if {c:E}{b1 b2:List S}{t:Bool} (hc:ev P C c l s=.ok (.bool t) s') (k:Out (exs P C n (if t then b1 else b2) l s') (fun p s=>match p.1 with | .next=>Out (exs P C n r p.2 s) Q X | .ret v=>Q (.ret v,p.2) s) X):Out (exs P C n (.ite c b1 b2 :: r) l s) Q X:=by
 refine xt_cons ?_
 rw [ex_ite,hc]
 cases t <;> exact k
theorem xt_raise {c:Nat} (k:X c s):Out (exs P C n (.raise c :: r) l s) Q X:=k
theorem xt_exprX (hv:Out (evQ P C e l s) (fun _ s=>Out (exs P C n r l s) Q X) X):Out (exs P C n (.exprX e :: r) l s) Q X:=by
 refine xt_cons ?_
 rw [ex_exprX]
 exact out_bind hv
theorem q_call {f:Nat}{es:List E}{vs:List V}{s1:MS}{R:V→MS→Prop} (h1:evL P C es l s=.ok vs s1) (h2:Out (C f vs s1) R X):Out (evQ P C (.call f es) l s) R X:=by
 rw [evQ_call,h1]; exact h2
theorem q_methX {k f:Nat}{es:List E}{x:V}{vs:List V}{s1 s2:MS}{R:V→MS→Prop} (h1:ev P C a l s=.ok x s1) (h0:methOf P x k s1=some f) (h2:evL P C es l s1=.ok vs s2) (h3:Out (C f (x :: vs) s2) R X):Out (evQ P C (.meth a k es) l s) R X:=by
 rw [evQ_meth,h1]
 show Out (match methOf P x k s1 with | some f=>_ | none=>_) _ _
 rw [h0]
 show Out (Res.bnd (evL P C es l s1) _) _ _
 rw [h2]; exact h3
theorem xt_for {ts:T ⊕ List T}{range:Bool}{body:List S}{xs:List V} (h1:ev P C e l s=.ok v s') (h2:itemsOf s' range v=some xs) (h3:forOk ts range v s'=true)
  (k:Out (forLoop s' range v (setTT P C ts) (exs P C n body) xs l s') (fun p s=>match p.1 with | .next=>Out (exs P C n r p.2 s) Q X | .ret v=>Q (.ret v,p.2) s) X):Out (exs P C n (.for_ ts range e body :: r) l s) Q X:=by
 refine xt_cons ?_
 rw [ex_for,h1]
 show Out (match itemsOf s' range v with | some xs=>_ | none=>_) _ _
 rw [h2]
 show Out (if forOk ts range v s'=true then _ else _) _ _
 rw [if_pos h3]; exact k
theorem out_forM {α β:Type}{s₀:MS}{range:Bool}{src:V}{tgt:V→Loc→MS→Res Loc}{body:Loc→MS→Res (Fl×Loc)}{Q:Fl×Loc→MS→Prop} (f:α→V) (L:β→Loc)
  (I:List α→β→MS→Prop)
  (hc:∀ x r y s,I (x :: r) y s→stays s₀ s range src=true∧OkR (tgt (f x) (L y) s) fun l s=>Out (body l s) (fun p s=>match p.1 with
   | .next=>∃ y,p.2=L y∧I r y s
   | .ret v=>Q (.ret v,p.2) s) X)
  (hn:∀ y s,I [] y s→stays s₀ s range src=true∧Q (.next,L y) s) :
  ∀ (xs:List α) (y:β) (s:MS),I xs y s→Out (forLoop s₀ range src tgt body (xs.map f) (L y) s) Q X
 | [],y,s,h=>by
  obtain ⟨h1,h2⟩:=hn y s h
  rw [List.map_nil,forLoop_nil,if_pos h1]
  exact h2
 | x :: r,y,s,h=>by
  obtain ⟨h1,h2⟩:=hc x r y s h
  rw [List.map_cons,forLoop_cons,if_pos h1]
  refine out_bnd (okr_mono h2 fun l s h=>out_bind (out_mono h (fun p s h=>?_) fun _ _ q=>q))
  obtain ⟨g,l⟩:=p
  cases g with
  | next =>
   obtain ⟨y,rfl,h⟩:=h
   exact out_forM f L I hc hn r y s h
  | ret v=>exact h
end
theorem out_run {P:Prog}{n f:Nat}{vs:List V}{s:MS}{fn:Fn}{Q:V→MS→Prop}{X:Nat→MS→Prop} (hf:P.fns f=some fn) (hl:vs.length=fn.np)
  (h:Out (exs P (run P n) n fn.body (vs.map some ++ List.replicate (fn.names.length - fn.np) none) s) (fun p s=>Q (flV p.1) s) X):Out (run P (n + 1) f vs s) Q X:=by
 simp only [run,hf,if_pos hl]
 refine out_bind (out_mono h (fun p s q=>?_) fun _ _ q=>q)
 obtain ⟨g,l⟩:=p
 cases g <;> exact q
theorem st_tryX {c c':Nat}{i:Option Nat}{b:List S}{l2:Loc}{s3 s4:MS} (h:evQ P C e l s=.exc c' s3)
  (hb:((P.excBase c').contains c' && (P.excBase c').contains c)=true) (hr:exs P C n b (setX i c' l) s3=.ok (.ret v,l2) s4) (k:Q (.ret v,[]) s4):OkR (exs P C n (.tryX e c i b :: r) l s) Q:=by
 rw [okr_cons,ex_tryX,h]
 delta landOn
 dsimp only
 rw [if_pos hb,hr]
 exact k
theorem st_expr (hv:ev P C e l s=.ok v s') (k:OkR (exs P C n r l s') Q):OkR (exs P C n (.expr e :: r) l s) Q:=by
 rw [exs_cons,okr_bind,ex_expr,hv]; exact k
theorem st_setitem {x y:V}{s1 s2 s3:MS} (h1:ev P C e l s=.ok v s1) (h2:ev P C a l s1=.ok x s2) (h3:ev P C b l s2=.ok y s3) (h4:setItem x y v s3=.ok () s') (k:OkR (exs P C n r l s') Q):OkR (exs P C n (.setitem a b e :: r) l s) Q:=by
 rw [exs_cons,okr_bind,ex_setitem,h1]
 show OkR (Res.bnd (ev P C a l s1) _) _
 rw [h2]
 show OkR (Res.bnd (ev P C b l s2) _) _
 rw [h3]
 show OkR (Res.bnd (setItem x y v s3) _) _
 rw [h4]; exact k
theorem st_setattr {x:V}{s1 s2:MS} (h1:ev P C e l s=.ok v s1) (h2:ev P C a l s1=.ok x s2) (h3:setAttr x i v s2=.ok () s') (k:OkR (exs P C n r l s') Q):OkR (exs P C n (.setattr a i e :: r) l s) Q:=by
 rw [exs_cons,okr_bind,ex_setattr,h1]
 show OkR (Res.bnd (ev P C a l s1) _) _
 rw [h2]
 show OkR (Res.bnd (setAttr x i v s2) _) _
 rw [h3]; exact k
theorem st_for {ts:T ⊕ List T}{range:Bool}{body:List S}{xs:List V} (h1:ev P C e l s=.ok v s') (h2:itemsOf s' range v=some xs) (h3:forOk ts range v s'=true)
  (k:OkR (forLoop s' range v (setTT P C ts) (exs P C n body) xs l s') (seqQ P C n r Q)):OkR (exs P C n (.for_ ts range e body :: r) l s) Q:=by
 rw [okr_cons,ex_for,h1]
 show OkR (match itemsOf s' range v with | some xs=>_ | none=>_) _
 rw [h2]
 show OkR (if forOk ts range v s'=true then _ else _) _
 rw [if_pos h3]; exact k
theorem e_call {f:Nat}{es:List E}{vs:List V}{s1:MS} (h1:evL P C es l s=.ok vs s1) (h2:C f vs s1=.ok v s'):ev P C (.call f es) l s=.ok v s':=by
 rw [ev_call,h1]; exact h2
theorem e_bin {o:Bop}{x y:V}{s1 s2:MS} (h1:ev P C a l s=.ok x s1) (h2:ev P C b l s1=.ok y s2) (h3:binOp o x y s2=.ok v s'):ev P C (.bin o a b) l s=.ok v s':=by
 rw [ev_bin,h1]
 show Res.bind (ev P C b l s1) _=_
 rw [h2]; exact h3
theorem e_sub {x y:V}{s1 s2:MS} (h1:ev P C a l s=.ok x s1) (h2:ev P C b l s1=.ok y s2) (h3:getItem x y s2=.ok v s'):ev P C (.sub a b) l s=.ok v s':=by
 rw [ev_sub,h1]
 show Res.bind (ev P C b l s1) _=_
 rw [h2]; exact h3
theorem e_slice {lo hi:Option E}{x:V}{y z:Option V}{s1 s2 s3:MS} (h1:ev P C a l s=.ok x s1) (h2:evO P C lo l s1=.ok y s2) (h3:evO P C hi l s2=.ok z s3) (h4:getSlice x y z s3=.ok v s'):ev P C (.slice a lo hi) l s=.ok v s':=by
 rw [ev_slice,h1]
 show Res.bind (evO P C lo l s1) _=_
 rw [h2]
 show Res.bind (evO P C hi l s2) _=_
 rw [h3]; exact h4
theorem e_isinst {ks:List Kind}{x:V}{t:Bool}{s1:MS} (h1:ev P C a l s=.ok x s1) (h2:isKinds P s1 x ks=some t):ev P C (.isinst a ks) l s=.ok (.bool t) s1:=by
 rw [ev_isinst,h1]
 show okB s1 (isKinds P s1 x ks)=_
 rw [h2]; rfl
theorem e_cmp {o:Cop}{x y:V}{s1 s2:MS} (h1:ev P C a l s=.ok x s1) (h2:ev P C b l s1=.ok y s2) (h3:cmpOp o x y s2=.ok v s'):ev P C (.cmp a o b) l s=.ok v s':=by
 rw [ev_cmp,h1]
 show Res.bind (ev P C b l s1) _=_
 rw [h2]; exact h3
theorem e_and1 {q:Res V} (h:ev P C a l s=q):ev P C (.and [a]) l s=q:=by rw [ev_and,evAnd_one]; exact h
theorem e_andT {es:List E}{s1:MS}{q:Res V} (h1:ev P C a l s=.ok (.bool true) s1) (h2:ev P C (.and (b :: es)) l s1=q):ev P C (.and (a :: b :: es)) l s=q:=by
 rw [ev_and] at h2 ⊢
 rw [evAnd_cons,h1]; exact h2
theorem e_andF {es:List E}{s1:MS} (h1:ev P C a l s=.ok (.bool false) s1):ev P C (.and (a :: b :: es)) l s=.ok (.bool false) s1:=by
 rw [ev_and,evAnd_cons,h1]; rfl
theorem e_or1 {q:Res V} (h:ev P C a l s=q):ev P C (.or [a]) l s=q:=by rw [ev_or,evOr_one]; exact h
theorem e_orF {es:List E}{s1:MS}{q:Res V} (h1:ev P C a l s=.ok (.bool false) s1) (h2:ev P C (.or (b :: es)) l s1=q):ev P C (.or (a :: b :: es)) l s=q:=by
 rw [ev_or] at h2 ⊢
 rw [evOr_cons,h1]; exact h2
theorem e_orT {es:List E}{s1:MS} (h1:ev P C a l s=.ok (.bool true) s1):ev P C (.or (a :: b :: es)) l s=.ok (.bool true) s1:=by
 rw [ev_or,evOr_cons,h1]; rfl
theorem e_not {t:Bool}{s1:MS} (h1:ev P C a l s=.ok (.bool t) s1):ev P C (.not a) l s=.ok (.bool (!t)) s1:=by
 rw [ev_not,h1]; rfl
theorem e_attr {x:V}{s1:MS} (h1:ev P C a l s=.ok x s1) (h2:getAttr x i s1=.ok v s'):ev P C (.attr a i) l s=.ok v s':=by
 rw [ev_attr,h1]; exact h2
theorem e_isN {g t:Bool}{s1:MS} (h1:ev P C a l s=.ok v s1) (h2:decide (v=.none)=t):ev P C (.isC g a .none) l s=.ok (.bool (t != g)) s1:=by
 rw [ev_isC,h1,← h2]; rfl
theorem e_lst {es:List E}{vs:List V}{s1:MS} (h1:evL P C es l s=.ok vs s1) (hn:decide (vs.length≤sizeMax)=true):ev P C (.lst es) l s=.ok (.lst vs) s1:=by
 rw [ev_lst,h1]; exact if_pos (of_decide_eq_true hn)
theorem e_prim {p:Prim}{es:List E}{vs:List V}{s1:MS} (h1:evL P C es l s=.ok vs s1) (h2:prim p vs s1=.ok v s'):ev P C (.prim p es) l s=.ok v s':=by
 rw [ev_prim,h1]; exact h2
theorem e_bm {m:Bm}{es:List E}{x:V}{vs:List V}{s1 s2:MS} (h1:ev P C a l s=.ok x s1) (h0:bmOk m x s1=true) (h2:evL P C es l s1=.ok vs s2) (h3:bmeth m x vs s2=.ok v s'):ev P C (.bm m a es) l s=.ok v s':=by
 rw [ev_bm,h1]
 show (if bmOk m x s1=true then _ else _)=_
 rw [if_pos h0,h2]; exact h3
theorem e_meth {k f:Nat}{es:List E}{x:V}{vs:List V}{s1 s2:MS} (h1:ev P C a l s=.ok x s1) (h0:methOf P x k s1=some f) (h2:evL P C es l s1=.ok vs s2) (h3:C f (x :: vs) s2=.ok v s'):ev P C (.meth a k es) l s=.ok v s':=by
 rw [ev_meth,h1]
 show (match methOf P x k s1 with | some f=>_ | none=>_)=_
 rw [h0]
 show Res.bind (evL P C es l s1) _=_
 rw [h2]; exact h3
theorem e_dictC {k:Nat}{r:Lbl}{d:List (V×V)}{s1:MS} (h1:ev P C a l s=.ok (.ref r) s1) (h2:s1.heap r=some (.dict d)) (h3:d.length≤1000):ev P C (.dictC k a) l s=.ok (.ref (k,s1.cnt k)) (s1.new k (.dict d)):=by
 rw [ev_dictC,h1]
 show (match s1.heap r with | some (.dict d)=>if d.length≤1000 then Res.ok (V.ref (k,s1.cnt k)) (s1.new k (.dict d)) else .stuck | _=>.stuck)=_
 rw [h2]; exact if_pos h3
theorem e_listM {k:Nat}{x:V}{b:Bool}{vs:List V}{s1:MS} (h1:ev P C a l s=.ok x s1) (h2:seqOf s1 x=some (b,vs)):ev P C (.listM k a) l s=.ok (.ref (k,s1.cnt k)) (s1.new k (.list vs)):=by
 rw [ev_listM,h1]
 show (match seqOf s1 x with | some (_,vs)=>Res.ok (V.ref (k,s1.cnt k)) (s1.new k (.list vs)) | none=>.stuck)=_
 rw [h2]
theorem e_comp {slot:Nat}{range:Bool}{cond:Option E}{src:V}{xs vs:List V}{s1 s2:MS} (h1:ev P C a l s=.ok src s1) (h2:itemsOf s1 range src=some xs) (h3:compLoop s1 range src slot (evC P C cond) (ev P C e) l [] xs s1=.ok vs s2) :
  ev P C (.comp none slot range a cond e) l s=.ok (.lst vs) s2:=by
 rw [ev_comp,h1]
 show (match itemsOf s1 range src with | some xs=>_ | none=>_)=_
 rw [h2]
 show (Res.bind _ _)=_
 rw [h3]; rfl
theorem e_compM {k slot:Nat}{range:Bool}{cond:Option E}{src:V}{xs vs:List V}{s1 s2:MS} (h1:ev P C a l s=.ok src s1) (h2:itemsOf s1 range src=some xs) (h3:compLoop s1 range src slot (evC P C cond) (ev P C e) l [] xs s1=.ok vs s2) :
  ev P C (.comp (some k) slot range a cond e) l s=.ok (.ref (k,s2.cnt k)) (s2.new k (.list vs)):=by
 rw [ev_comp,h1]
 show (match itemsOf s1 range src with | some xs=>_ | none=>_)=_
 rw [h2]
 show (Res.bind _ _)=_
 rw [h3]; rfl
theorem e_cons {es:List E}{vs:List V}{s1:MS} (h1:ev P C e l s=.ok v s1) (h2:evL P C es l s1=.ok vs s'):evL P C (e :: es) l s=.ok (v :: vs) s':=by
 rw [evL_cons,h1]
 show Res.bind (evL P C es l s1) _=_
 rw [h2]; rfl
end
theorem bm_list {s:MS}{r:Lbl}{l:List V} (h:s.heap r=some (.list l)):bmOk .append (.ref r) s=true:=by
 show (listAt (.ref r) s).isSome=true
 delta listAt; dsimp only; rw [h]; rfl
theorem bind_eq {α β:Type}{r:Res α}{a:α}{s:MS}{f:α→MS→Res β}{q:Res β} (h:r=.ok a s) (k:f a s=q):r.bind f=q:=by rw [h]; exact k
theorem sa_ok {s:MS}{c:Lbl}{k:Nat}{as:List (Nat×V)} (i:Nat) (v:V) (h:s.heap c=some (.inst k as)) (hn:decide (as.length < 1000)=true):setAttr (.ref c) i v s=.ok () (s.put c (.inst k (aput i v as))):=by
 show (match s.heap c with | some (.inst c' as)=>if as.length < 1000 then Res.ok () (s.put c (.inst c' (aput i v as))) else .stuck | _=>.stuck)=_
 rw [h]
 exact if_pos (of_decide_eq_true hn)
theorem ga_ok {s:MS}{c:Lbl}{k i:Nat}{as:List (Nat×V)}{v:V} (h:s.heap c=some (.inst k as)) (hv:afind i as=some v):getAttr (.ref c) i s=.ok v s:=by
 show (match s.heap c with | some (.inst _ as)=>okV s (afind i as) | _=>.stuck)=_
 rw [h]
 show okV s (afind i as)=_
 rw [hv]; rfl
theorem put_self (s:MS) (c:Lbl) (o:MObj):(s.put c o).heap c=some o:=if_pos rfl
theorem put_ne {s:MS}{c l:Lbl}{o:MObj} (h:l≠c):(s.put c o).heap l=s.heap l:=if_neg h
theorem new_self (s:MS) (k:Nat) (o:MObj):(s.new k o).heap (k,s.cnt k)=some o:=if_pos rfl
theorem new_ne {s:MS}{k:Nat}{l:Lbl}{o:MObj} (h:l≠(k,s.cnt k)):(s.new k o).heap l=s.heap l:=if_neg h
theorem kind_ne {a b i j:Nat} (h:a≠b):((a,i):Lbl)≠(b,j):=fun e=>h (congrArg Prod.fst e)
theorem meth_of {P:Prog}{s:MS}{r:Lbl}{c m:Nat}{as:List (Nat×V)} (h:s.heap r=some (.inst c as)):methOf P (.ref r) m s=P.meths c m:=by
 show (match s.heap r with | some (.inst c _)=>P.meths c m | _=>none)=_
 rw [h]
theorem seq_ref {s:MS}{r:Lbl}{l:List V} (h:s.heap r=some (.list l)):seqOf s (.ref r)=some (true,l):=by
 show (match s.heap r with | some (.list l)=>some (true,l) | _=>none)=_
 rw [h]
theorem veq_refs (s:MS) (n:Nat) (r q:Lbl) (l:List V) (hr:s.heap r=some (.list l)) (hq:s.heap q=some (.list l)) (h:∀ x∈l,veq s n x x=some true):veq s (n + 1) (.ref r) (.ref q)=some true:=by
 simp [veq,seqOf,hr,hq,zip_refl _ _ h]
theorem veq_nil (s:MS) (n:Nat) (r:Lbl) (l:List V) (hr:s.heap r=some (.list l)):veq s (n + 1) (.ref r) (.lst [])=some l.isEmpty:=by
 cases l <;> simp [veq,seqOf,hr,zipAll]
theorem ne_nil (s:MS) (r:Lbl) (l:List V) (hr:s.heap r=some (.list l)):cmpOp .ne (.ref r) (.lst []) s=.ok (.bool (!l.isEmpty)) s:=by
 show okB s ((veq s 12 (.ref r) (.lst [])).map (!·))=_
 rw [veq_nil s 11 r l hr]; rfl
end Mine
end
section
namespace Mine
open PySem PySem.W PyProof.Rows
noncomputable def attrs:List PySem.Str:=["number","begun","open_call","closed","known","written","laid","fresh","all_keys","houses","callers","post","rows"]
noncomputable def attrName (i:Nat):PySem.Str:=match attrs[i]? with
  | some x=>x
  | none=>toStr [0,i]
noncomputable def attrsOk:Bool:=attrs.all (fun x=>!(x.cps[0]? == some 0)) && (List.range 13).all fun i=>(List.range 13).all fun j=>decide (attrs[i]?=attrs[j]?→i=j)
theorem attrs_ok:attrsOk=true:=by decide +kernel
theorem attr_inj (i j:Nat) (h:attrName i=attrName j):i=j:=by
  have hok:=attrs_ok
  simp only [attrsOk,Bool.and_eq_true,List.all_eq_true,Bool.not_eq_true',beq_eq_false_iff_ne,decide_eq_true_eq] at hok
  unfold attrName at h
  cases hi:attrs[i]? with
  | some x =>
    cases hj:attrs[j]? with
    | some y =>
      rw [hi,hj] at h
      simp only at h
      subst h
      have h1:i < 13:=(List.getElem?_eq_some_iff.1 hi).1
      have h2:j < 13:=(List.getElem?_eq_some_iff.1 hj).1
      exact hok.2 i (List.mem_range.2 h1) j (List.mem_range.2 h2) (hi.trans hj.symm)
    | none =>
      rw [hi,hj] at h
      simp only at h
      have:=hok.1 x (List.mem_of_getElem? hi)
      rw [h] at this
      exact (this rfl).elim
  | none =>
    cases hj:attrs[j]? with
    | some y =>
      rw [hi,hj] at h
      simp only at h
      have:=hok.1 y (List.mem_of_getElem? hj)
      rw [← h] at this
      exact (this rfl).elim
    | none =>
      rw [hi,hj] at h
      simp only [toStr] at h
      injection h with h
      injection h with h
      injection h with _ h
      injection h
noncomputable def notAttr (x:PySem.Str):Bool:=!(x.cps[0]? == some 0) && attrs.all fun y=>!(y == x)
theorem notAttr_ok {x:PySem.Str} (h:notAttr x=true) (i:Nat):x≠attrName i:=by
  simp only [notAttr,Bool.and_eq_true,List.all_eq_true,Bool.not_eq_true',beq_eq_false_iff_ne] at h
  unfold attrName
  cases hi:attrs[i]? with
  | some y =>
    intro e
    exact h.2 y (List.mem_of_getElem? hi) e.symm
  | none =>
    rintro rfl
    exact h.1 rfl
noncomputable def globIn (K:Frag) (x:PySem.Str):Option Value:=match K.lookup mainGlobals with
  | some ⟨_,_,.dict es _,_⟩=>nsFind es x
  | _=>none
noncomputable def hasGlob (K:Frag):Bool:=match K.lookup mainGlobals with
  | some ⟨_,_,.dict _ _,_⟩=>true
  | _=>false
theorem globIn_ok {K:Frag}{h:Heap}{mg:PySem.Str→Option Value} (X:K.In h) (hg:h.Ns mainGlobals mg) (hK:hasGlob K=true) (x:PySem.Str):mg x=globIn K x:=by
  unfold hasGlob at hK
  split at hK
  · rename_i c dd es n sl ho
    obtain ⟨o,es',ep,h1,h2,h3,h4⟩:=hg
    have h5:=X _ _ ho
    rw [h1] at h5
    cases h5
    cases h2
    rw [← h4]
    simp only [globIn,ho]
  · exact no_ft hK
set_option genCtorIdx false in
structure Tab where
  fal:List (Nat×Addr)
  cal:List (Nat×Addr)
  fnl:List (Nat×Fn)
  mel:List ((Nat×Nat)×Nat)
  inl:List (Nat×(Nat×Nat))
  xbl:List (Nat×List Nat)
noncomputable def noneNames:List PySem.Str:=["len","max","int","sorted","tuple","list","all","isinstance","range","dict","bool","str","ValueError"]
noncomputable def isInt (v:Option Value) (i:Int):Bool:=match v with
  | some (.int j _)=>decide (i=j)
  | _=>false
noncomputable def isTxt (v:Option Value) (x:PySem.Str):Bool:=match v with
  | some (.str y _)=>x == y
  | _=>false
theorem isInt_ok {v:Option Value}{i:Int} (h:isInt v i=true):∃ k,v=some (.int i k):=by
  unfold isInt at h
  split at h
  · simp only [decide_eq_true_eq] at h; subst h; exact ⟨_,rfl⟩
  · exact no_ft h
theorem isTxt_ok {v:Option Value}{x:PySem.Str} (h:isTxt v x=true):∃ k,v=some (.str x k):=by
  unfold isTxt at h
  split at h
  · simp only [beq_iff_eq] at h; subst h; exact ⟨_,rfl⟩
  · exact no_ft h
noncomputable def ckGlob (K:Frag) (N:Names):Bool :=
  hasGlob K && N.gi.all (fun p=>isInt (globIn K p.1) p.2) && N.gs.all (fun p=>isTxt (globIn K p.1) (toStr p.2)) && noneNames.all fun x=>(globIn K x).isNone
noncomputable def ckFal (K:Frag) (N:Names) (T:Tab):Bool:=T.fal.all fun p=>keepIn K (.ref p.2) && (N.fn p.1 == Str.empty || decide (globIn K (N.fn p.1)=some (.ref p.2)))
noncomputable def ckCls (K:Frag) (Ca:Addr):Bool :=
  decide (findIn K (.ref Ca) "__getattribute__"=some (some (.builtin "object.__getattribute__"))) &&
  decide (findIn K (.ref Ca) "__getattr__"=some none) && decide (findIn K (.ref Ca) "__setattr__"=some (some (.builtin "object.__setattr__"))) &&
  attrs.all (fun x=>decide (findIn K (.ref Ca) x=some none)) && (clsIn K Ca).any (·.hasDict) && plainOver K Ca
noncomputable def ckCal (K:Frag) (T:Tab):Bool:=T.cal.all fun p=>ckCls K p.2
noncomputable def ckMel (K:Frag) (N:Names) (T:Tab):Bool:=T.mel.all fun p=>match T.cal.lookup p.1.1 with
  | some Ca=>(match T.fal.lookup p.2 with
    | some a=>decide (findIn K (.ref Ca) (N.meth p.1.2)=some (some (.ref a))) && decide (typeIn K (.ref a)=some (.type "function")) && keepIn K (.ref a) && notAttr (N.meth p.1.2)
    | none=>false)
  | none=>true
noncomputable def ckInl (K:Frag) (N:Names) (T:Tab):Bool:=T.inl.all fun p=>match T.cal.lookup p.1 with
  | some Ca=>(match T.fal.lookup p.2.2 with
    | some fi=>keepIn K (.ref Ca) && decide (globIn K (N.cls p.1)=some (.ref Ca)) && makesIn K Ca && decide (findIn K (.ref Ca) "__init__"=some (some (.ref fi))) && decide (typeIn K (.ref fi)=some (.type "function"))
    | none=>false)
  | none=>false
noncomputable def ckXk (K:Frag) (T:Tab):Bool:=T.xbl.all fun p=>p.2.all fun k=>decide (kitOne K (.ref p.1) (xval k)=some true) && (decide (k=0) || decide (exmOne K (.ref p.1) (.ref k)=some true))
noncomputable def ckXi (K:Frag) (N:Names) (T:Tab):Bool:=T.xbl.all fun p=>xcls K p.1 && p.2.contains 0 && N.xs.all fun x=>p.2.contains x.2 || decide (kitOne K (.ref p.1) (xval x.2)=some false)
noncomputable def ckXm (N:Names) (T:Tab):Bool:=(T.mel.all fun p=>!N.xm p.1.2 || N.xf p.2) && T.inl.all fun p=>!N.xm (1000 + p.1) || N.xf p.2.2
noncomputable def ckFnl (K:Frag) (N:Names) (T:Tab):Bool:=T.fnl.all fun p=>match T.fal.lookup p.1 with
  | some a=>ckFn K N p.2 a
  | none=>false
noncomputable def ckXl (K:Frag) (T:Tab) {G:Gd}{N:Names}{C:Calls}{d:Dp} (n:Nat) (H:Hyp G N C d):Bool:=T.fnl.all fun p=>!N.xf p.1 || (T.fal.lookup p.1).any fun a=>ckXBody K n H p.2 a
noncomputable def ckQl (K:Frag) (T:Tab) {G:Gd}{N:Names}{C:Calls}{d:Dp} (n:Nat) (H:Hyp G N C d):Bool:=T.fnl.all fun p=>!N.qf p.1 || (T.fal.lookup p.1).any fun a=>ckBody K n H p.2 a
noncomputable def ckBl (K:Frag) (T:Tab) {G:Gd}{N:Names}{C:Calls}{d:Dp} (n:Nat) (H:Hyp G N C d):Bool:=T.fnl.all fun p=>(T.fal.lookup p.1).any fun a=>ckBody K n H p.2 a
theorem mem_of_lookup {α β:Type} [BEq α] [LawfulBEq α]:∀ {l:List (α×β)}{k:α}{v:β},l.lookup k=some v→(k,v)∈l
  | [],_,_,h=>by simp at h
  | (a,b) :: l,k,v,h=>by
    rw [List.lookup_cons] at h
    split at h
    · rename_i e
      cases h
      rw [beq_iff_eq.1 e]; exact List.mem_cons_self ..
    · exact List.mem_cons_of_mem _ (mem_of_lookup h)
noncomputable def Tab.prog (T:Tab):Prog:=⟨fun f=>T.fnl.lookup f,fun c m=>T.mel.lookup (c,m),fun c=>T.inl.lookup c,fun c=>(T.xbl.lookup c).getD []⟩
noncomputable def Tab.gd (T:Tab) (prog:Program) (w:World) (K:Frag) (mg mb:PySem.Str→Option Value) (h:Heap):Gd :=
  ⟨prog,w,K,mg,mb,h,T.prog,fun f=>T.fal.lookup f,fun c=>T.cal.lookup c,attrName⟩
theorem stat_of {T:Tab}{N:Names}{prog:Program}{w:World}{K:Frag}{mg mb:PySem.Str→Option Value}{h:Heap} (hN:N.attr=attrName)
    (X:K.In h) (g:h.Ns mainGlobals mg) (b:h.Ns builtinsNs mb) (bi:∀ x:PySem.Str,x≠"__name__"→mb x=bootBuiltins x) (lim:h.NoLimit)
    (h1:ckGlob K N=true) (h2:ckFal K N T=true) (h3:ckCal K T=true) (h4:ckMel K N T=true) (h5:ckInl K N T=true) (hxw:∀ y c,N.xs.contains (y,c)=true→c≠0∧OwnCls y c vbm "ValueError.__new__" mg h) (h6:ckXk K T=true) (h7:ckXm N T=true) (h8:ckXi K N T=true):Stat (T.gd prog w K mg mb h) N:=by
  simp only [ckGlob,Bool.and_eq_true,List.all_eq_true] at h1
  obtain ⟨⟨⟨g1,g2⟩,g3⟩,g4⟩:=h1
  have hm:=fun x=>globIn_ok X g g1 x
  simp only [ckFal,ckCal,ckMel,ckInl,List.all_eq_true,Bool.and_eq_true,Bool.or_eq_true,beq_iff_eq,decide_eq_true_eq] at h2 h3 h4 h5
  constructor
  · refine ⟨X,g,b,bi,lim,fun x i hc=>?_,fun x i hc=>?_,attr_inj,hN,fun x hx=>?_⟩
    · obtain ⟨k,e⟩:=isInt_ok (g2 (x,i) (by simpa using hc))
      exact ⟨k,(hm x).trans e⟩
    · obtain ⟨k,e⟩:=isTxt_ok (g3 (x,i) (by simpa using hc))
      exact ⟨k,(hm x).trans e⟩
    · exact (hm x).trans (Option.isNone_iff_eq_none.1 (g4 x hx))
  · intro c Ca hc
    have e:=h3 _ (mem_of_lookup hc)
    simp only [ckCls,Bool.and_eq_true,decide_eq_true_eq,List.all_eq_true] at e
    obtain ⟨⟨⟨⟨⟨e1,e2⟩,e3⟩,e4⟩,e5⟩,e6⟩:=e
    refine ⟨e1,e2,e3,fun i hi=>?_,?_,e6⟩
    · show findIn K (.ref Ca) (attrName i)=some none
      unfold attrName
      have hlt:i < attrs.length:=hi
      rw [List.getElem?_eq_getElem hlt]
      exact e4 _ (List.getElem_mem _)
    · show ∃ cd,clsIn K Ca=some cd∧cd.hasDict=true
      cases hc:clsIn K Ca with
      | none=>rw [hc] at e5; exact no_ft e5
      | some cd=>rw [hc] at e5; exact ⟨cd,rfl,e5⟩
  · intro f a hf
    have e:=h2 _ (mem_of_lookup hf)
    exact ⟨e.1,e.2.imp id fun e=>(hm _).trans e⟩
  · intro c k f Ca hc hca
    have e:=h4 _ (mem_of_lookup hc)
    have hca:T.cal.lookup c=some Ca:=hca
    simp only [hca] at e
    split at e
    · rename_i a ha
      simp only [Bool.and_eq_true,decide_eq_true_eq] at e
      obtain ⟨⟨⟨e1,e2⟩,e3⟩,e4⟩:=e
      exact ⟨a,ha,e1,e2,e3,notAttr_ok e4⟩
    · exact no_ft e
  · intro c k f hc
    have e:=h5 _ (mem_of_lookup hc)
    simp only at e
    split at e
    · rename_i Ca hca
      split at e
      · rename_i fi hfi
        simp only [Bool.and_eq_true,decide_eq_true_eq] at e
        obtain ⟨⟨⟨⟨e1,e2⟩,e3⟩,e4⟩,e5⟩:=e
        exact ⟨Ca,fi,hca,hfi,e1,(hm _).trans e2,e3,e4,e5⟩
      · exact no_ft e
    · exact no_ft e
  · exact hxw
  · intro c k h1 h2
    have h1:((T.xbl.lookup c).getD []).contains c=true:=h1
    have h2:((T.xbl.lookup c).getD []).contains k=true:=h2
    show kitOne K (.ref c) (xval k)=some true∧(k≠0→exmOne K (.ref c) (.ref k)=some true)
    cases hl:T.xbl.lookup c with
    | none=>rw [hl] at h1; exact no_ft h1
    | some l =>
      rw [hl] at h2
      have e:=List.all_eq_true.1 (List.all_eq_true.1 h6 _ (mem_of_lookup hl)) k (List.contains_iff_mem.1 h2)
      obtain ⟨e1,e2⟩:=Bool.and_eq_true_iff.1 e
      exact ⟨of_decide_eq_true e1,fun hk=>(Bool.or_eq_true_iff.1 e2).elim (fun z=>absurd (of_decide_eq_true z) hk) of_decide_eq_true⟩
  · intro k c f hk hc
    have e:=List.all_eq_true.1 (Bool.and_eq_true_iff.1 h7).1 _ (mem_of_lookup hc)
    exact (Bool.or_eq_true_iff.1 e).elim (fun z=>by rw [show N.xm k=true from hk] at z; exact no_ft z) id
  · intro c k f hk hc
    have e:=List.all_eq_true.1 (Bool.and_eq_true_iff.1 h7).2 _ (mem_of_lookup hc)
    exact (Bool.or_eq_true_iff.1 e).elim (fun z=>by rw [show N.xm (1000 + c)=true from hk] at z; exact no_ft z) id
  · intro c k h1 h2
    have h1:((T.xbl.lookup c).getD []).contains c=true:=h1
    show xcls K c=true∧kitOne K (.ref c) (xval k)=some (((T.xbl.lookup c).getD []).contains k)
    cases hl:T.xbl.lookup c with
    | none=>rw [hl] at h1; exact no_ft h1
    | some l =>
      rw [hl] at h1
      obtain ⟨e1,e2⟩:=Bool.and_eq_true_iff.1 (List.all_eq_true.1 h8 _ (mem_of_lookup hl))
      obtain ⟨e0,e1⟩:=Bool.and_eq_true_iff.1 e1
      refine ⟨e0,?_⟩
      show kitOne K (.ref c) (xval k)=some (l.contains k)
      cases hk:l.contains k with
      | true =>
        have e:=List.all_eq_true.1 (List.all_eq_true.1 h6 _ (mem_of_lookup hl)) k (List.contains_iff_mem.1 hk)
        exact of_decide_eq_true (Bool.and_eq_true_iff.1 e).1
      | false =>
        rcases h2 with rfl | ⟨y,h2⟩
        · rw [hk] at e1; exact no_ft e1
        · have e:=List.all_eq_true.1 e2 _ (List.contains_iff_mem.1 h2)
          exact of_decide_eq_true ((Bool.or_eq_true_iff.1 e).resolve_left fun z=>by rw [hk] at z; exact no_ft z)
theorem bits_all:∀ {ns:List Int}{n:Nat},PyData.weightAll (ns.map .int)≤n→∀ i∈ns,intBits i≤n
  | [],_,_,i,hi=>by cases hi
  | j :: ns,n,h,i,hi=>by
    simp only [List.map_cons,PyData.weightAll,PyData.weight] at h
    rcases List.mem_cons.1 hi with rfl | hi
    · unfold intBits
      by_cases e:i=0
      · simp [e]
      · simp [e] at h ⊢; lia
    · exact bits_all (by lia) i hi
theorem bits_lay {ns:List Int} (h:(PyData.list (ns.map .int)).layable0=true):∀ i∈ns,intBits i≤1048576:=by
  simp only [PyData.layable0,Bool.and_eq_true,PyData.weight] at h
  exact bits_all (of_decide_eq_true h.2)
theorem law_close {T:Tab}{N:Names}{prog:Program}{w:World}{K:Frag}{mg mb:PySem.Str→Option Value}{s:Shared} (S:Stat (T.gd prog w K mg mb s.heap) N) (hf:ckFnl K N T=true) (hb:∀ (G:Gd) (C:Calls) (n:Nat) (H:Hyp G N C ⟨n,true⟩),ckBl K T n H=true) (hbx:∀ (G:Gd) (C:Calls) (n:Nat) (H:Hyp G N C ⟨n,true⟩),ckXl K T n H=true) (hbq:∀ (G:Gd) (C:Calls) (n:Nat) (H:Hyp G N C ⟨n,false⟩),ckQl K T n H=true)
    {n law:Nat}{fa la:Addr}{ns:List Int}{vals:List Value} (hA:AC ⟨n,true⟩ callerA) (hfa:T.fal.lookup law=some fa) (hz:s.heap.get? la=some { cls:=.type "list",data:=.seq vals.toArray }) (hlen:ns.length≤63) (hI:IntsAre vals ns)
    {st':MS} (hrun:run T.prog n law [.lst (ns.map .int)] st0=.ok (.bool true) st') {B:Result→Shared→Prop}
    (k:∀ s':Shared,(∀ b o,s.heap.get? b=some o→s'.heap.get? b=some o)→s'.os=s.os→s'.gens=s.gens→B (.ok (.ret (.bool true))) s') :
    codeAny (model prog w) callerA (.call (.ref fa) ⟨[.ref la],[]⟩) B s:=by
  let G:=T.gd prog w K mg mb s.heap
  have hok:∀ f fn,G.P.fns f=some fn→∃ a,G.fa f=some a∧ckFn G.K N fn a=true:=by
    intro f fn h
    have e:=List.all_eq_true.1 hf _ (mem_of_lookup h)
    simp only at e
    split at e
    · rename_i a ha
      exact ⟨a,ha,e⟩
    · exact no_ft e
  have hfn:∀ f fn,G.P.fns f=some fn→∃ a,G.fa f=some a∧FnRec G true (CallsA G N.xf N.qf) fn a:=by
    intro f fn h
    obtain ⟨a,ha,e⟩:=hok f fn h
    refine ⟨a,ha,fnRec_of (fun _ _=>S.hyp) e fun C n H=>?_⟩
    have g:=List.all_eq_true.1 (hb G C n H) _ (mem_of_lookup h)
    rw [show T.fal.lookup f=some a from ha] at g
    exact g
  have hfx:∀ f fn,N.xf f=true→G.P.fns f=some fn→∃ a,G.fa f=some a∧FnX G N.xf N.qf fn a:=by
    intro f fn hx h
    obtain ⟨a,ha,e⟩:=hok f fn h
    refine ⟨a,ha,fnX_of S e fun C n H=>?_⟩
    have g:=(Bool.or_eq_true_iff.1 (List.all_eq_true.1 (hbx G C n H) _ (mem_of_lookup h))).resolve_left fun z=>by
      rw [show N.xf f=true from hx] at z; exact no_ft z
    rw [show T.fal.lookup f=some a from ha] at g
    exact g
  have hfq:∀ f fn,N.qf f=true→G.P.fns f=some fn→∃ a,G.fa f=some a∧FnRec G false (fun C n=>CallsQ G C n N.qf) fn a:=by
    intro f fn hx h
    obtain ⟨a,ha,e⟩:=hok f fn h
    refine ⟨a,ha,fnRec_of (fun _ _=>S.hypQ) e fun C n H=>?_⟩
    have g:=(Bool.or_eq_true_iff.1 (List.all_eq_true.1 (hbq G C n H) _ (mem_of_lookup h))).resolve_left fun z=>by
      rw [show N.qf f=true from hx] at z; exact no_ft z
    rw [show T.fal.lookup f=some a from ha] at g
    exact g
  let t0:Tie:=⟨fun _=>none,fun _=>none,fun _=>False,0,[]⟩
  have hno:∀ a,¬ t0.Avoid a:=by
    rintro a (⟨l,e | e⟩ | e)
    · exact no_none e
    · exact no_none e
    · exact e
  have R:Rel G t0 st0 s :=
    { base:=fun b o e=>e,apart:=fun a q=>(hno a q).elim,live:=fun a q=>(hno a q).elim,pv:=fun a q=>q.elim,injρ:=(fun l l' a e=>by exact no_none e),injδ:=(fun l l' a e=>by exact no_none e),two:=(fun l l' a e=>by exact no_none e),
      objs:=(fun l o e=>by exact no_none e),cnt:=(fun k i _=>⟨rfl,rfl,rfl⟩),sys:=(fun l e=>by exact no_none e),wr:=rfl }
  have hV:∀ {vs:List Value}{ms:List Int},IntsAre vs ms→VRels t0 s.heap (ms.map .int) vs:=by
    intro vs ms h
    induction h with
    | nil=>rfl
    | cons n t _ ih=>exact ⟨_,_,rfl,⟨t,rfl⟩,ih⟩
  have rv:VRel t0 s.heap (.lst (ns.map .int)) (.ref la):=⟨la,vals.toArray,rfl,⟨_,hz⟩,hno _,by rw [List.length_map]; unfold sizeMax; lia,hV hI⟩
  obtain ⟨a,ha,go⟩:=(calls_both S.O hfn hfx hfq n).ok law [.lst (ns.map .int)] st0 (.bool true) st' hrun callerA hA
  have:a=fa:=by
    have ha:T.fal.lookup law=some a:=ha
    rw [hfa] at ha; cases ha; rfl
  subst this
  refine go t0 s [.ref la] ⟨rfl,fun e he=>by cases he⟩ R ⟨_,_,rfl,rv,rfl⟩ B fun v t' s' S' R' r=>?_
  have r:v=.bool true:=r
  subst r
  exact k s' R'.base S'.os S'.gens
end Mine
end
section
namespace Mine
noncomputable def f_cell:Fn:=⟨2,["_law_script","_law_k"],[.ite (.cmp (.loc 1) .lt (.prim .len [.loc 0])) [.ret (some (.sub (.loc 0) (.loc 1)))] [],.ret (some (.int 0))]⟩
inductive W where | get | set (i:Int) | add (i:Int)
noncomputable def wv:W→V
 | .get=>.tup [.str [103,101,116]]
 | .set i=>.tup [.str [115,101,116],.int i]
 | .add i=>.tup [.str [97,100,100],.int i]
noncomputable def dn (a:Int):W→Int×Int
 | .get=>(a,a)
 | .set i=>(i,a)
 | .add i=>(a + i,a + i)
variable {P:Prog}
theorem i_seq {s:MS}{a:V}{k:Bool}{l:List V} (h:seqOf s a=some (k,l)) (i:Nat) (hi:i < l.length):getItem a (.int i) s=.ok l[i] s:=by
 have h0:(0:Int)≤i:=by lia
 have h1:(i:Int) < l.length:=by lia
 cases a <;> simp [seqOf] at h <;> simp_all [getItem,seqOf,idx,okV]
theorem run_cell {f:Nat} (hf:P.fns f=some f_cell) (n:Nat) (l:List Int) (k:Nat) (s:MS):run P (n + 1) f [.lst (l.map .int),.int k] s=.ok (.int (l.getD k 0)) s:=by
 refine okr_eq (okr_run (fn:=f_cell) hf rfl ?_)
 have hc:ev P (run P n) (.cmp (.loc 1) .lt (.prim .len [.loc 0])) [some (.lst (l.map .int)),some (.int k)] s=.ok (.bool (decide ((k:Int) < ((l.map V.int).length:Nat)))) s:=rfl
 rw [List.length_map] at hc
 by_cases h:k < l.length
 ·refine st_if (hc.trans (congrArg (fun b=>Res.ok (V.bool b) s) (decide_eq_true (by lia)))) (st_ret (e_sub (s1:=s) (s2:=s) rfl rfl (i_seq (a:=.lst (l.map .int)) (k:=true) rfl k (by simpa using h))) ⟨?_,rfl⟩)
  simp [flV,h]
 ·refine st_if (hc.trans (congrArg (fun b=>Res.ok (V.bool b) s) (decide_eq_false (by lia)))) (st_next (st_ret rfl ⟨?_,rfl⟩))
  simp [flV,h]
theorem run_cell0 {f:Nat} (hf:P.fns f=some f_cell) (n:Nat) (l:List Int) (s:MS):run P (n + 1) f [.lst (l.map .int),.int 0] s=.ok (.int (l.getD 0 0)) s:=run_cell hf n l 0 s
theorem run_cell1 {f:Nat} (hf:P.fns f=some f_cell) (n:Nat) (l:List Int) (s:MS):run P (n + 1) f [.lst (l.map .int),.int 1] s=.ok (.int (l.getD 1 0)) s:=run_cell hf n l 1 s
theorem run_cell2 {f:Nat} (hf:P.fns f=some f_cell) (n:Nat) (l:List Int) (s:MS):run P (n + 1) f [.lst (l.map .int),.int 2] s=.ok (.int (l.getD 2 0)) s:=run_cell hf n l 2 s
noncomputable def abc:List Nat:=[97,98,99,100,101,102,103,104,105,106,107,108,109,110,111,112,113,114,115,116,117,118,119,120,121,122]
noncomputable def letter (x:Int):Nat:=abc[(x.fmod 26).toNat]?.getD 97
theorem fmod_range (x m:Int) (h:0 < m):0≤x.fmod m∧x.fmod m < m:=by
 rw [Int.fmod_eq_emod_of_nonneg x (Int.le_of_lt h)]
 exact ⟨Int.emod_nonneg x (Int.ne_of_gt h),Int.emod_lt_of_pos x h⟩
theorem abc_at (x:Int) (s:MS):getItem (.str abc) (.int (x.fmod 26)) s=.ok (.str [letter x]) s:=by
 obtain ⟨h1,h2⟩:=fmod_range x 26 (by decide)
 have h3:(x.fmod 26).toNat < abc.length:=by show _ < 26; lia
 refine (i_str abc (x.fmod 26) s h1 (by show _ < (26:Int); exact h2) (by decide)).trans ?_
 rw [letter,List.getElem?_eq_getElem h3]; rfl
theorem abc_get:∀ i:Fin 26,abc[i.1]?.getD 97=97 + i.1:=by decide
theorem letter_eq (x:Int):letter x=97 + (x.fmod 26).toNat:=by
 obtain ⟨h1,h2⟩:=fmod_range x 26 (by decide)
 exact abc_get ⟨(x.fmod 26).toNat,by lia⟩
theorem sl_str (x:List Nat) (j:Int) (s:MS) (h:0≤j) (hx:x.length≤16777216):getSlice (.str x) none (some (.int j)) s=.ok (.str (x.take j.toNat)) s:=by
 have hx:x.length≤sizeMax:=hx
 simp [getSlice,cutAt,h,hx]
theorem sl_str2 (x:List Nat) (j:Int) (s:MS) (h:0≤j) (hx:x.length≤16777216):getSlice (.str x) (some (.int j)) none s=.ok (.str (x.drop j.toNat)) s:=by
 have hx:x.length≤sizeMax:=hx
 simp [getSlice,cutAt,h,hx]
theorem join_ok {vs:List V}{x:List Nat} (s:MS) (h:catStrs vs=some x) (hx:x.length≤16777216):bmeth .join (.str []) [.lst vs] s=.ok (.str x) s:=by
 have hx:x.length≤sizeMax:=hx
 simp only [bmeth,bm1,h,if_pos hx]
noncomputable def restOf (z:Nat) (t:Int):List Nat:=(List.range z).map fun (k:Nat)=>letter (t.fdiv 26 + 5 * k)
theorem rest_len (z:Nat) (t:Int):(restOf z t).length=z:=by rw [restOf,List.length_map,List.length_range]
theorem cat_one (f:Nat→Nat):∀ l:List Nat,catStrs (l.map fun k=>V.str [f k])=some (l.map f)
 | []=>rfl
 | k :: l=>by rw [List.map_cons,catStrs,cat_one f l]; rfl
theorem letter_abc (x:Int):97≤letter x∧letter x≤122:=by
 rw [letter_eq]
 obtain ⟨h1,h2⟩:=fmod_range x 26 (by decide)
 lia
theorem rest_abc (z:Nat) (t:Int):∀ c∈restOf z t,97≤c∧c≤122:=by
 intro c hc
 obtain ⟨k,-,rfl⟩:=List.mem_map.1 hc
 exact letter_abc _
noncomputable def AllA (R:V→V→Prop):List V→List V→Prop
 | [],[]=>True
 | x :: l,y :: m=>R x y∧AllA R l m
 | _,_=>False
theorem AllA.len {R:V→V→Prop}:∀ {a b:List V},AllA R a b→a.length=b.length
 | [],[],_=>rfl
 | x :: l,y :: m,h=>by simp [AllA.len h.2]
 | [],_ :: _,h=>h.elim
 | _ :: _,[],h=>h.elim
theorem AllA.get {R:V→V→Prop}:∀ {a b:List V},AllA R a b→∀ (i:Nat) (h:i < a.length) (h':i < b.length),R a[i] b[i]
 | x :: l,y :: m,h,0,_,_=>h.1
 | x :: l,y :: m,h,i + 1,h1,h2=>AllA.get h.2 i (by simpa using h1) (by simpa using h2)
 | [],_,_,_,h1,_=>by simp at h1
 | _ :: _,[],h,_,_,_=>h.elim
theorem AllA.map {α:Type}{R:V→V→Prop}{f g:α→V}:∀ (l:List α),(∀ x∈l,R (f x) (g x))→AllA R (l.map f) (l.map g)
 | [],_=>trivial
 | x :: l,h=>⟨h x (by simp),AllA.map l fun y hy=>h y (by simp [hy])⟩
noncomputable def seqTag (k:Bool):Tag:=match k with | true=>.list | false=>.tuple
theorem tag_seq {s:MS}{a:V}{k:Bool}{l:List V} (h:seqOf s a=some (k,l)):tagOf s a=some (seqTag k):=by
 cases a with
 | tup=>cases h; rfl
 | lst=>cases h; rfl
 | ref r =>
  have h:(match s.heap r with | some (.list l)=>some (true,l) | _=>none)=some (k,l):=h
  show (match s.heap r with | some (.list _)=>some Tag.list | some (.dict _)=>some .dict | _=>none)=_
  cases e:s.heap r with
  | none=>rw [e] at h; exact no_none h
  | some o =>
   rw [e] at h
   cases o with
   | list m=>cases h; rfl
   | _=>exact no_none h
 | _=>exact no_none h
theorem kinds_tag {s:MS}{v:V}{g:Tag} (h:tagOf s v=some g) (k:Kind):isKind P s v k=kindHas g k:=by
 cases v with
 | exc=>exact no_none h
 | ref r =>
  show (match tagOf s (.ref r) with | some g=>kindHas g k | none=>none)=_
  rw [h]
 | _=>cases h; rfl
theorem kind1 {s:MS}{v:V}{g:Tag}{k:Kind}{t:Bool} (h:tagOf s v=some g) (hk:kindHas g k=some t):isKinds P s v [k]=some t:=by
 rw [isKinds,kinds_tag h,hk]; cases t <;> rfl
theorem len_seq {s:MS}{a:V}{k:Bool}{l:List V} (h:seqOf s a=some (k,l)):lenV a s=.ok (.int l.length) s:=by
 cases a with
 | tup=>cases h; rfl
 | lst=>cases h; rfl
 | ref r =>
  show (match seqOf s (.ref r) with | some p=>Res.ok (V.int p.2.length) s | none=>.stuck)=_
  rw [h]
 | _=>exact no_none h
end Mine
end
section
namespace Mine
inductive St where | here | owes | gone
 deriving DecidableEq
noncomputable def stS:St→List Nat
 | .here=>[104,101,114,101]
 | .owes=>[111,119,101,115]
 | .gone=>[103,111,110,101]
noncomputable abbrev Mark:=Int×Int×Int
set_option genCtorIdx false in
structure Row where
 st:St
 turn:Int
 amt:Int
 marks:List Mark
noncomputable abbrev Key:=List Nat
noncomputable abbrev Known:=List (Key×Row)
inductive Letter where
 | call (h c n:Int) (k:Key) (w:W)
 | parcel (h:Int) (k:Key) (t a:Int) (ms:List Mark)
 | taken (h:Int) (k:Key) (t:Int)
 | answer (c n told:Int)
set_option genCtorIdx false in
structure LRow where
 c:Int
 n:Int
 k:Key
 w:W
 told:Int
noncomputable def markV (m:Mark):V:=.tup [.int m.1,.int m.2.1,.int m.2.2]
noncomputable def marksV (ms:List Mark):V:=.tup (ms.map markV)
noncomputable def rowV (r:Row):V:=.tup [.str (stS r.st),.int r.turn,.int r.amt,marksV r.marks]
noncomputable def knownD (k:Known):List (V×V):=k.map fun p=>(.str p.1,rowV p.2)
noncomputable def letV:Letter→V
 | .call h c n k w=>.tup [.str [99,97,108,108],.int h,.int c,.int n,.str k,wv w]
 | .parcel h k t a ms=>.tup [.str [112,97,114,99,101,108],.int h,.str k,.int t,.int a,marksV ms]
 | .taken h k t=>.tup [.str [116,97,107,101,110],.int h,.str k,.int t]
 | .answer c n told=>.tup [.str [97,110,115,119,101,114],.int c,.int n,.int told]
noncomputable def lrowV (r:LRow):V:=.tup [.int r.c,.int r.n,.str r.k,wv r.w,.int r.told]
noncomputable def kget (key:Key):Known→Option Row
 | []=>none
 | (a,r) :: l=>if a=key then some r else kget key l
noncomputable def kput (key:Key) (x:Row):Known→Known
 | []=>[(key,x)]
 | (a,r) :: l=>if a=key then (a,x) :: l else (a,r) :: kput key x l
theorem dfind_known (key:Key):∀ k:Known,dfind (.str key) (knownD k)=(kget key k).map rowV
 | []=>rfl
 | (a,r) :: l=>by
  by_cases h:a=key
  ·rw [kget,if_pos h]; exact dfind_hit (decide_eq_true h)
  ·rw [kget,if_neg h]; exact (dfind_miss (a:=.str a) (k:=.str key) (decide_eq_false h)).trans (dfind_known key l)
theorem dput_known (key:Key) (x:Row):∀ k:Known,dput (.str key) (rowV x) (knownD k)=knownD (kput key x k)
 | []=>rfl
 | (a,r) :: l=>by
  by_cases h:a=key
  ·rw [kput,if_pos h]; exact dput_hit (decide_eq_true h)
  ·rw [kput,if_neg h]; exact (dput_miss (a:=.str a) (k:=.str key) (decide_eq_false h)).trans (congrArg (_ :: ·) (dput_known key x l))
theorem keys_kput (key:Key) (x:Row):∀ (k:Known) (r:Row),kget key k=some r→(kput key x k).map (·.1)=k.map (·.1)
 | [],_,h=>by cases h
 | (a,r') :: l,r,h=>by
  by_cases h1:a=key
  ·rw [kput,if_pos h1]; rfl
  ·rw [kget,if_neg h1] at h
   rw [kput,if_neg h1,List.map_cons,List.map_cons,keys_kput key x l r h]
theorem mem_kput {key:Key}{x:Row}:∀ {k:Known}{p:Key×Row},p∈kput key x k→p=(key,x)∨p∈k
 | [],p,h=>by
  rcases List.mem_cons.1 h with h | h
  ·exact .inl h
  ·cases h
 | (a,r) :: l,p,h=>by
  by_cases h1:a=key
  ·rw [kput,if_pos h1] at h
   rcases List.mem_cons.1 h with h | h
   ·rw [h1] at h; exact .inl h
   ·exact .inr (List.mem_cons_of_mem _ h)
  ·rw [kput,if_neg h1] at h
   rcases List.mem_cons.1 h with h | h
   ·exact .inr (h ▸ List.mem_cons_self ..)
   ·exact (mem_kput h).imp id (List.mem_cons_of_mem _)
theorem kget_mem {key:Key}:∀ {k:Known}{r:Row},kget key k=some r→(key,r)∈k
 | [],_,h=>by cases h
 | (a,r') :: l,r,h=>by
  by_cases h1:a=key
  ·rw [kget,if_pos h1] at h; cases h; subst h1; exact List.mem_cons_self ..
  ·rw [kget,if_neg h1] at h; exact List.mem_cons_of_mem _ (kget_mem h)
theorem kget_of {key:Key}:∀ {k:Known},key∈k.map (·.1)→∃ r,kget key k=some r
 | [],h=>by cases h
 | (a,r') :: l,h=>by
  by_cases h1:a=key
  ·exact ⟨r',if_pos h1⟩
  ·rcases List.mem_cons.1 h with h | h
   ·exact (h1 h.symm).elim
   ·obtain ⟨r,hr⟩:=kget_of h
    exact ⟨r,(if_neg h1).trans hr⟩
noncomputable def mfind (c:Int):List Mark→Option (Int×Int)
 | []=>none
 | m :: l=>if m.1=c then some m.2 else mfind c l
noncomputable def mins (x:Mark):List Mark→List Mark
 | []=>[x]
 | m :: l=>if x.1 < m.1 then x :: m :: l else m :: mins x l
noncomputable def mput (x:Mark) (ms:List Mark):List Mark:=mins x (ms.filter fun m=>!decide (m.1=x.1))
noncomputable def Up (a:Int):List Mark→Prop
 | []=>True
 | m :: l=>a≤m.1∧m.1 < 6∧Up (m.1 + 1) l
noncomputable def MOk (ms:List Mark):Prop:=Up 0 ms
theorem Up.le {a b:Int} (h:a≤b):∀ {ms:List Mark},Up b ms→Up a ms
 | [],_=>trivial
 | m :: l,⟨h1,h2,h3⟩=>⟨Int.le_trans h h1,h2,h3⟩
theorem Up.len:∀ {ms:List Mark}{a:Int},0≤a→a≤6→Up a ms→(ms.length:Int)≤6 - a
 | [],a,h0,h6,_=>by show (0:Int)≤_; lia
 | m :: l,a,h0,h6,⟨h1,h2,h3⟩=>by
  have:=Up.len (a:=m.1 + 1) (by lia) (by lia) h3
  rw [List.length_cons]; lia
theorem Up.filter (p:Mark→Bool):∀ {ms:List Mark}{a:Int},Up a ms→Up a (ms.filter p)
 | [],_,_=>trivial
 | m :: l,a,⟨h1,h2,h3⟩=>by
  rw [List.filter_cons]
  split
  ·exact ⟨h1,h2,Up.filter p h3⟩
  ·exact (Up.filter p h3).le (by lia)
theorem Up.mem:∀ {ms:List Mark}{a:Int},Up a ms→∀ m∈ms,a≤m.1
 | [],_,_,m,h=>by cases h
 | x :: l,a,⟨h1,h2,h3⟩,m,h=>by
  rcases List.mem_cons.1 h with rfl | h
  ·exact h1
  ·have:=Up.mem h3 m h; lia
theorem Up.mins {x:Mark}:∀ {ms:List Mark}{a:Int},Up a ms→(∀ m∈ms,m.1≠x.1)→a≤x.1→x.1 < 6→Up a (mins x ms)
 | [],a,_,_,h1,h2=>⟨h1,h2,trivial⟩
 | m :: l,a,⟨g1,g2,g3⟩,hn,h1,h2=>by
  have hm:=hn m (List.mem_cons_self ..)
  rw [Mine.mins]
  split
  ·rename_i h; exact ⟨h1,h2,by lia,g2,g3⟩
  ·rename_i h; exact ⟨g1,g2,Up.mins g3 (fun y hy=>hn y (List.mem_cons_of_mem _ hy)) (by lia) h2⟩
theorem not_mem_filter (ms:List Mark) (c:Int):∀ m∈ms.filter fun m=>!decide (m.1=c),m.1≠c:=fun m h=>by
 have:=(List.mem_filter.1 h).2
 simpa using this
theorem MOk.put {ms:List Mark} (h:MOk ms) {x:Mark} (h0:0≤x.1) (h6:x.1 < 6):MOk (mput x ms) :=
 Up.mins (Up.filter _ h) (not_mem_filter ms x.1) h0 h6
theorem Up.rising:∀ {ms:List Mark}{a:Int},Up a ms→Mine.rising (ms.map (·.1))=true
 | [],_,_=>rfl
 | [m],_,_=>rfl
 | m :: m' :: l,a,⟨_,_,h⟩=>by
  have hr:=Up.rising h
  show (decide (m.1 < m'.1) && Mine.rising (m'.1 :: l.map (·.1)))=true
  rw [decide_eq_true (by have:=h.1; omega)]; exact hr
set_option genCtorIdx false in
structure HS where
 num:Int
 known:Known
 written:Known
 laid:List Letter
 fresh:List LRow
noncomputable def HS.has (h:HS) (key:Key):Bool:=match kget key h.known with
 | some r=>decide (r.st=.here)
 | none=>false
noncomputable def HS.owes (h:HS):List Key:=(h.known.filter fun p=>decide (p.2.st=.owes)).map (·.1)
noncomputable def parcelOf (num:Int) (key:Key) (r:Row):Letter:=.parcel (1 - num) key (r.turn + 1) r.amt r.marks
noncomputable def HS.nudge (h:HS):List Letter:=(h.written.filter fun p=>decide (p.2.st=.owes)).map fun p=>parcelOf h.num p.1 p.2
noncomputable def HS.move (h:HS) (key:Key) (r:Row):HS:={ h with known:=kput key { r with st:=.owes } h.known,laid:=h.laid ++ [parcelOf h.num key r] }
noncomputable def HS.write (h:HS):HS:={ h with written:=h.known,laid:=[],fresh:=[] }
noncomputable def HS.sleep (h:HS):HS:={ h with known:=h.written,laid:=[],fresh:=[] }
noncomputable def HS.again (h:HS) (c n told:Int):HS:={ h with laid:=h.laid ++ [.answer c n told] }
noncomputable def HS.first (h:HS) (c n:Int) (key:Key) (w:W) (r:Row):HS :=
 { h with known:=kput key ⟨.here,r.turn,(dn r.amt w).1,mput (c,n,(dn r.amt w).2) r.marks⟩ h.known,laid:=h.laid ++ [.answer c n (dn r.amt w).2],fresh:=h.fresh ++ [⟨c,n,key,w,(dn r.amt w).2⟩] }
noncomputable def HS.called (h:HS) (c n:Int) (key:Key) (w:W) (r:Row):HS:=match mfind c r.marks with
 | some p=>if n < p.1 then h else if p.1=n then h.again c n p.2 else h.first c n key w r
 | none=>h.first c n key w r
noncomputable def HS.came (h:HS):Letter→HS
 | .call _ c n key w=>(match kget key h.known with
  | some r=>if r.st=.here then h.called c n key w r else h
  | none=>h)
 | .parcel _ key t a ms=>(match kget key h.known with
  | some r=>{ h with known:=if r.turn < t then kput key ⟨.here,t,a,ms⟩ h.known else h.known,laid:=h.laid ++ [.taken (1 - h.num) key t] }
  | none=>h)
 | .taken _ key t=>(match kget key h.known with
  | some r=>if r.st=.owes∧t=r.turn + 1 then { h with known:=kput key ⟨.gone,r.turn,0,[]⟩ h.known } else h
  | none=>h)
 | .answer _ _ _=>h
section
variable {h:HS}{hh c n tn am:Int}{key:Key}{w:W}{r:Row}{ms:List Mark}
theorem came_call (hk:kget key h.known=some r):h.came (.call hh c n key w)=if r.st=.here then h.called c n key w r else h:=by delta HS.came; dsimp only; rw [hk]
theorem came_call0 (hk:kget key h.known=none):h.came (.call hh c n key w)=h:=by delta HS.came; dsimp only; rw [hk]
theorem came_parcel (hk:kget key h.known=some r):h.came (.parcel hh key tn am ms)={ h with known:=if r.turn < tn then kput key ⟨.here,tn,am,ms⟩ h.known else h.known,laid:=h.laid ++ [.taken (1 - h.num) key tn] }:=by delta HS.came; dsimp only; rw [hk]
theorem came_parcel0 (hk:kget key h.known=none):h.came (.parcel hh key tn am ms)=h:=by delta HS.came; dsimp only; rw [hk]
theorem came_taken (hk:kget key h.known=some r):h.came (.taken hh key tn)=if r.st=.owes∧tn=r.turn + 1 then { h with known:=kput key ⟨.gone,r.turn,0,[]⟩ h.known } else h:=by delta HS.came; dsimp only; rw [hk]
theorem came_taken0 (hk:kget key h.known=none):h.came (.taken hh key tn)=h:=by delta HS.came; dsimp only; rw [hk]
end
noncomputable def HS.new (num:Int) (keys:List Key):HS :=
 let k:Known:=keys.foldl (fun k key=>kput key (if num=0 then ⟨.here,0,0,[]⟩ else ⟨.gone,-1,0,[]⟩) k) []
 ⟨num,k,k,[],[]⟩
end Mine
end
section
namespace Mine
noncomputable def f_done:Fn:=⟨2,["amount","wish"],[.ite (.cmp (.sub (.loc 1) (.int 0)) .eq (.str [115,101,116])) [.ret (some (.tup [.sub (.loc 1) (.int 1),.loc 0]))] [],.ite (.cmp (.sub (.loc 1) (.int 0)) .eq (.str [97,100,100])) [.ret (some (.tup [.bin .add (.loc 0) (.sub (.loc 1) (.int 1)),.bin .add (.loc 0) (.sub (.loc 1) (.int 1))]))] [],.ret (some (.tup [.loc 0,.loc 0]))]⟩
noncomputable def initB:List S:=[.setitem (.attr (.loc 0) 4) (.loc 3) (.tup [.str [104,101,114,101],.int 0,.int 0,.tup []]),.ite (.cmp (.loc 1) .ne (.int 0)) [.setitem (.attr (.loc 0) 4) (.loc 3) (.tup [.str [103,111,110,101],.neg (.int 1),.int 0,.tup []])] []]
noncomputable def initT:List S:=[.setattr (.loc 0) 5 (.dictC 5 (.attr (.loc 0) 4)),.setattr (.loc 0) 6 (.lstM 6 []),.setattr (.loc 0) 7 (.lstM 7 [])]
noncomputable def f_House_init:Fn:=⟨3,["self","number","keys","key"],.setattr (.loc 0) 0 (.loc 1) :: .setattr (.loc 0) 4 (.dictM 4 [] []) :: .for_ (.inl (.loc 3)) false (.loc 2) initB :: initT⟩
noncomputable def f_House_has:Fn:=⟨2,["self","key"],[.ret (some (.and [.cmp (.loc 1) .isin (.attr (.loc 0) 4),.cmp (.sub (.sub (.attr (.loc 0) 4) (.loc 1)) (.int 0)) .eq (.str [104,101,114,101])]))]⟩
noncomputable def f_House_owes:Fn:=⟨1,["self",""],[.ret (some (.comp (some 14) 1 false (.attr (.loc 0) 4) (some (.cmp (.sub (.sub (.attr (.loc 0) 4) (.loc 1)) (.int 0)) .eq (.str [111,119,101,115]))) (.loc 1)))]⟩
noncomputable def f_House_came:Fn:=⟨2,["self","letter","one"],[.ite (.cmp (.sub (.loc 1) (.int 0)) .eq (.str [99,97,108,108])) [.ite (.meth (.loc 0) 0 [.sub (.loc 1) (.int 4)]) [.expr (.meth (.loc 0) 3 [.sub (.loc 1) (.int 2),.sub (.loc 1) (.int 3),.sub (.loc 1) (.int 4),.sub (.loc 1) (.int 5)])] []] [.ite (.cmp (.sub (.loc 1) (.int 0)) .eq (.str [112,97,114,99,101,108])) [.ite (.cmp (.sub (.loc 1) (.int 3)) .gt (.sub (.sub (.attr (.loc 0) 4) (.sub (.loc 1) (.int 2))) (.int 1))) [.setitem (.attr (.loc 0) 4) (.sub (.loc 1) (.int 2)) (.tup [.str [104,101,114,101],.sub (.loc 1) (.int 3),.sub (.loc 1) (.int 4),.sub (.loc 1) (.int 5)])] [],.expr (.bm .append (.attr (.loc 0) 6) [.tup [.str [116,97,107,101,110],.bin .sub (.int 1) (.attr (.loc 0) 0),.sub (.loc 1) (.int 2),.sub (.loc 1) (.int 3)]])] [.assign 2 (.sub (.attr (.loc 0) 4) (.sub (.loc 1) (.int 2))),.ite (.and [.cmp (.sub (.loc 2) (.int 0)) .eq (.str [111,119,101,115]),.cmp (.sub (.loc 1) (.int 3)) .eq (.bin .add (.sub (.loc 2) (.int 1)) (.int 1))]) [.setitem (.attr (.loc 0) 4) (.sub (.loc 1) (.int 2)) (.tup [.str [103,111,110,101],.sub (.loc 2) (.int 1),.int 0,.tup []])] []]]]⟩
noncomputable def calB:List S:=[.ite (.and [.cmp (.sub (.loc 6) (.int 0)) .eq (.loc 1),.cmp (.sub (.loc 6) (.int 1)) .gt (.loc 2)]) [.ret none] [],.ite (.and [.cmp (.sub (.loc 6) (.int 0)) .eq (.loc 1),.cmp (.sub (.loc 6) (.int 1)) .eq (.loc 2)]) [.expr (.bm .append (.attr (.loc 0) 6) [.tup [.str [97,110,115,119,101,114],.loc 1,.loc 2,.sub (.loc 6) (.int 2)]]),.ret none] []]
noncomputable def calT:List S:=[.assign 7 (.call 2 [.sub (.loc 5) (.int 2),.loc 4]),.assign 8 (.bin .add (.comp none 9 false (.sub (.loc 5) (.int 3)) (some (.cmp (.sub (.loc 9) (.int 0)) .ne (.loc 1))) (.loc 9)) (.lst [.tup [.loc 1,.loc 2,.sub (.loc 7) (.int 1)]])),.setitem (.attr (.loc 0) 4) (.loc 3) (.tup [.str [104,101,114,101],.sub (.loc 5) (.int 1),.sub (.loc 7) (.int 0),.prim .tuple1 [.prim .sorted [.loc 8]]]),.expr (.bm .append (.attr (.loc 0) 6) [.tup [.str [97,110,115,119,101,114],.loc 1,.loc 2,.sub (.loc 7) (.int 1)]]),.expr (.bm .append (.attr (.loc 0) 7) [.tup [.loc 1,.loc 2,.loc 3,.loc 4,.sub (.loc 7) (.int 1)]])]
noncomputable def f_House_called:Fn:=⟨5,["self","caller","number","key","wish","one","mark","pair","marks",""],.assign 5 (.sub (.attr (.loc 0) 4) (.loc 3)) :: .for_ (.inl (.loc 6)) false (.sub (.loc 5) (.int 3)) calB :: calT⟩
noncomputable def f_House_parcel:Fn:=⟨3,["self","key","one"],[.ret (some (.tup [.str [112,97,114,99,101,108],.bin .sub (.int 1) (.attr (.loc 0) 0),.loc 1,.bin .add (.sub (.loc 2) (.int 1)) (.int 1),.sub (.loc 2) (.int 2),.sub (.loc 2) (.int 3)]))]⟩
noncomputable def f_House_write:Fn:=⟨1,["self","found"],[.setattr (.loc 0) 5 (.dictC 5 (.attr (.loc 0) 4)),.assign 1 (.tup [.attr (.loc 0) 6,.attr (.loc 0) 7]),.setattr (.loc 0) 6 (.lstM 6 []),.setattr (.loc 0) 7 (.lstM 7 []),.ret (some (.loc 1))]⟩
noncomputable def f_House_nudge:Fn:=⟨1,["self",""],[.ret (some (.comp none 1 false (.attr (.loc 0) 5) (some (.cmp (.sub (.sub (.attr (.loc 0) 5) (.loc 1)) (.int 0)) .eq (.str [111,119,101,115]))) (.meth (.loc 0) 4 [.loc 1,.sub (.attr (.loc 0) 5) (.loc 1)])))]⟩
set_option genCtorIdx false in
structure HouseP (P:Prog):Prop where
 done:P.fns 2=some f_done
 init:P.fns 20=some f_House_init
 has:P.fns 21=some f_House_has
 came:P.fns 23=some f_House_came
 called:P.fns 24=some f_House_called
 parcel:P.fns 25=some f_House_parcel
 mhas:P.meths 1 0=some 21
 mowes:P.meths 1 1=some 22
 mcame:P.meths 1 2=some 23
 mcalled:P.meths 1 3=some 24
 mparcel:P.meths 1 4=some 25
noncomputable def Fr (F:Lbl→Prop) (s s':MS):Prop:=(∀ l:Lbl,l.2 < s.cnt l.1→¬ F l→s'.heap l=s.heap l)∧∀ k,s.cnt k≤s'.cnt k
theorem Fr.refl (F:Lbl→Prop) (s:MS):Fr F s s:=⟨fun _ _ _=>rfl,fun _=>Nat.le_refl _⟩
theorem Fr.trans {F:Lbl→Prop}{s s' s'':MS} (a:Fr F s s') (b:Fr F s' s''):Fr F s s'' :=
 ⟨fun l h n=>(b.1 l (Nat.lt_of_lt_of_le h (a.2 l.1)) n).trans (a.1 l h n),fun k=>Nat.le_trans (a.2 k) (b.2 k)⟩
theorem Fr.mono {F G:Lbl→Prop}{s s':MS} (a:Fr F s s') (h:∀ l,F l→G l):Fr G s s':=⟨fun l hl n=>a.1 l hl fun q=>n (h l q),a.2⟩
theorem Fr.put {F:Lbl→Prop}{s s':MS} (a:Fr F s s') {l:Lbl} (h:F l) (o:MObj):Fr F s (s'.put l o) :=
 ⟨fun x hx n=>(put_ne fun (e:x=l)=>n (e.symm ▸ h)).trans (a.1 x hx n),a.2⟩
noncomputable def At1 (l:Lbl):Lbl→Prop:=fun x=>x=l
theorem at1 (l:Lbl):At1 l l:=rfl
theorem cnt_new (s:MS) (k:Nat) (o:MObj) (j:Nat):s.cnt j≤(s.new k o).cnt j:=by
 show s.cnt j≤if j=k then s.cnt k + 1 else s.cnt j
 split
 ·rename_i e; subst e; exact Nat.le_succ _
 ·exact Nat.le_refl _
theorem cnt_self (s:MS) (k:Nat) (o:MObj):(s.new k o).cnt k=s.cnt k + 1:=if_pos rfl
theorem Fr.new {F:Lbl→Prop}{s s':MS} (a:Fr F s s') (k:Nat) (o:MObj):Fr F s (s'.new k o) :=
 ⟨fun x hx n=>(new_ne fun e=>by
   have h1:=a.2 x.1
   rw [e] at h1 hx
   exact Nat.lt_irrefl _ (Nat.lt_of_lt_of_le hx h1)).trans (a.1 x hx n),fun j=>Nat.le_trans (a.2 j) (cnt_new s' k o j)⟩
set_option genCtorIdx false in
structure HIx where
 k:Nat
 w:Nat
 la:Nat
 fr:Nat
noncomputable def hObj (num:Int) (x:HIx):MObj:=.inst 1 [(0,.int num),(4,.ref (4,x.k)),(5,.ref (5,x.w)),(6,.ref (6,x.la)),(7,.ref (7,x.fr))]
set_option genCtorIdx false in
structure HAt (s:MS) (i:Nat) (x:HIx) (h:HS):Prop where
 o:s.heap (2,i)=some (hObj h.num x)
 k:s.heap (4,x.k)=some (.dict (knownD h.known))
 w:s.heap (5,x.w)=some (.dict (knownD h.written))
 la:s.heap (6,x.la)=some (.list (h.laid.map letV))
 fr:s.heap (7,x.fr)=some (.list (h.fresh.map lrowV))
 io:i < s.cnt 2
 ik:x.k < s.cnt 4
 iw:x.w < s.cnt 5
 il:x.la < s.cnt 6
 ir:x.fr < s.cnt 7
noncomputable def HF (i:Nat) (x:HIx) (l:Lbl):Prop:=l=(2,i)∨l=(4,x.k)∨l=(5,x.w)∨l=(6,x.la)∨l=(7,x.fr)
theorem HAt.step {F:Lbl→Prop}{s s':MS}{i:Nat}{x:HIx}{h:HS} (a:HAt s i x h) (f:Fr F s s') (n:∀ l,HF i x l→¬ F l):HAt s' i x h where
 o:=(f.1 _ a.io (n _ (.inl rfl))).trans a.o
 k:=(f.1 _ a.ik (n _ (.inr (.inl rfl)))).trans a.k
 w:=(f.1 _ a.iw (n _ (.inr (.inr (.inl rfl))))).trans a.w
 la:=(f.1 _ a.il (n _ (.inr (.inr (.inr (.inl rfl)))))).trans a.la
 fr:=(f.1 _ a.ir (n _ (.inr (.inr (.inr (.inr rfl)))))).trans a.fr
 io:=Nat.lt_of_lt_of_le a.io (f.2 2)
 ik:=Nat.lt_of_lt_of_le a.ik (f.2 4)
 iw:=Nat.lt_of_lt_of_le a.iw (f.2 5)
 il:=Nat.lt_of_lt_of_le a.il (f.2 6)
 ir:=Nat.lt_of_lt_of_le a.ir (f.2 7)
theorem HAt.laid {s:MS}{i:Nat}{x:HIx}{h:HS} (a:HAt s i x h) (l:List Letter):HAt (s.put (6,x.la) (.list (l.map letV))) i x { h with laid:=l } :=
 ⟨(put_ne (kind_ne (by decide))).trans a.o,(put_ne (kind_ne (by decide))).trans a.k,(put_ne (kind_ne (by decide))).trans a.w,put_self _ _ _,(put_ne (kind_ne (by decide))).trans a.fr,a.io,a.ik,a.iw,a.il,a.ir⟩
theorem HAt.fresh {s:MS}{i:Nat}{x:HIx}{h:HS} (a:HAt s i x h) (l:List LRow):HAt (s.put (7,x.fr) (.list (l.map lrowV))) i x { h with fresh:=l } :=
 ⟨(put_ne (kind_ne (by decide))).trans a.o,(put_ne (kind_ne (by decide))).trans a.k,(put_ne (kind_ne (by decide))).trans a.w,(put_ne (kind_ne (by decide))).trans a.la,put_self _ _ _,a.io,a.ik,a.iw,a.il,a.ir⟩
theorem HAt.known {s:MS}{i:Nat}{x:HIx}{h:HS} (a:HAt s i x h) (k:Known):HAt (s.put (4,x.k) (.dict (knownD k))) i x { h with known:=k } :=
 ⟨(put_ne (kind_ne (by decide))).trans a.o,put_self _ _ _,(put_ne (kind_ne (by decide))).trans a.w,(put_ne (kind_ne (by decide))).trans a.la,(put_ne (kind_ne (by decide))).trans a.fr,a.io,a.ik,a.iw,a.il,a.ir⟩
theorem HAt.fresh1 {s:MS}{i:Nat}{x:HIx}{h:HS} (a:HAt s i x h) (L:LRow):HAt (s.put (7,x.fr) (.list (h.fresh.map lrowV ++ [lrowV L]))) i x { h with fresh:=h.fresh ++ [L] }:=by
 have:=a.fresh (h.fresh ++ [L])
 rwa [List.map_append] at this
set_option genCtorIdx false in
structure HZ (h:HS):Prop where
 la:h.laid.length < 16777000
 fr:h.fresh.length < 16777000
 k:h.known.length < 1000
 w:h.written.length < 1000
noncomputable def KOk (k:Known):Prop:=∀ p∈k,MOk p.2.marks
section
variable {P:Prog} (H:HouseP P) {n i:Nat}{x:HIx}{s:MS}{h:HS}{key:Key}{r:Row}
theorem len_known {k:Known} (h:k.length < 1000):(knownD k).length < 16777216:=by rw [knownD,List.length_map]; lia
theorem len_known' {k:Known} (h:k.length < 1000):(knownD k).length≤1000:=by rw [knownD,List.length_map]; lia
theorem st_here (st:St):decide (stS st=[104,101,114,101])=decide (st=.here):=by cases st <;> rfl
theorem st_owes (st:St):decide (stS st=[111,119,101,115])=decide (st=.owes):=by cases st <;> rfl
theorem row_of (hk:kget key h.known=some r):dfind (.str key) (knownD h.known)=some (.tup [.str (stS r.st),.int r.turn,.int r.amt,marksV r.marks]):=by
 rw [dfind_known,hk]; rfl
theorem c_inD {s:MS}{l:Lbl}{d:List (V×V)} (h:s.heap l=some (.dict d)) (key:Key):cmpOp .isin (.str key) (.ref l) s=.ok (.bool (dfind (.str key) d).isSome) s:=by
 have e:cmpOp.memb (.str key) (.ref l) s=some (dfind (.str key) d).isSome:=by
  delta cmpOp.memb seqOf; dsimp only; rw [h]; rfl
 show okB s (cmpOp.memb (.str key) (.ref l) s)=_
 rw [e]; rfl
include H
theorem run_has (n:Nat) (a:HAt s i x h) (key:Key):run P (n + 1) 21 [.ref (2,i),.str key] s=.ok (.bool (h.has key)) s:=by
 refine okr_eq (okr_run H.has rfl ?_)
 obtain ⟨ho,hk,-⟩:=a
 have hin:ev P (run P n) (.cmp (.loc 1) .isin (.attr (.loc 0) 4)) [some (.ref (2,i)),some (.str key)] s=.ok (.bool (dfind (.str key) (knownD h.known)).isSome) s :=
  e_cmp rfl (by (repeat' first | exact rfl | apply e_attr | exact ga_ok (by assumption) rfl)) (c_inD hk key)
 rw [dfind_known] at hin
 unfold HS.has
 cases e:kget key h.known with
 | none =>
  rw [e] at hin
  exact st_ret (e_andF hin) ⟨rfl,rfl⟩
 | some r =>
  rw [e] at hin
  have hd:=row_of e
  refine st_ret (e_andT hin (e_and1 (by (repeat' first | exact rfl | apply e_attr | apply e_sub | apply e_cmp | exact ga_ok (by assumption) rfl | exact i_dict _ _ _ _ _ (by assumption) (by first | exact rfl | assumption))))) ⟨congrArg V.bool (st_here r.st),rfl⟩
omit H
theorem memb_map {α:Type}{f:α→V}{l:List α}{v:V} (h:v∈l.map f):∃ a,a∈l∧v=f a:=by
 obtain ⟨a,h1,h2⟩:=List.mem_map.1 h
 exact ⟨a,h1,h2.symm⟩
noncomputable def MI (c n:Int) (all rem:List Mark):Prop:=mfind c all=mfind c rem∨(∃ p,mfind c all=some p∧p.1 < n∧∀ x∈rem,x.1≠c)
theorem MI.next {c n:Int}{all rem:List Mark}{m:Mark} (h:MI c n all (m :: rem)) (hc:m.1≠c):MI c n all rem:=by
 rcases h with h | ⟨p,h1,h2,h3⟩
 ·rw [mfind,if_neg hc] at h; exact .inl h
 ·exact .inr ⟨p,h1,h2,fun x hx=>h3 x (List.mem_cons_of_mem _ hx)⟩
theorem MI.here {c n:Int}{all rem:List Mark}{m:Mark} (h:MI c n all (m :: rem)) (hc:m.1=c):mfind c all=some m.2:=by
 rcases h with h | ⟨p,h1,h2,h3⟩
 ·rw [mfind,if_pos hc] at h; exact h
 ·exact (h3 m (List.mem_cons_self ..) hc).elim
theorem up_rest {c a:Int}{m:Mark}{rem:List Mark} (h:Up a (m :: rem)) (hc:m.1=c):∀ x∈rem,x.1≠c:=fun x hx e=>by
 have:=Up.mem h.2.2 x hx; lia
include H
omit H
theorem MI.more {c n:Int}{all rem:List Mark}{m:Mark}{b:Int} (h:MI c n all (m :: rem)) (u:Up b (m :: rem)) (k:m.1=c→m.2.1 < n):MI c n all rem:=by
 by_cases hc:m.1=c
 ·exact .inr ⟨_,h.here hc,k hc,up_rest u hc⟩
 ·exact h.next hc
theorem e_app {C:Calls}{a b:E}{l:Loc}{s:MS}{q:Lbl}{xs:List V}{v:V} (h1:ev P C a l s=.ok (.ref q) s) (h2:s.heap q=some (.list xs)) (h3:ev P C b l s=.ok v s) (h4:xs.length < 16777216):ev P C (.bm .append a [b]) l s=.ok .none (s.put q (.list (xs ++ [v]))) :=
 e_bm h1 (bm_list h2) (e_cons h3 rfl) (append_at _ _ _ _ h2 h4)
include H
noncomputable def HIx.fresh (x:HIx) (s:MS):Prop:=s.cnt 4≤x.k∧s.cnt 5≤x.w∧s.cnt 6≤x.la∧s.cnt 7≤x.fr
omit H
theorem items_dict {s:MS}{r:Lbl}{d:List (V×V)} (h:s.heap r=some (.dict d)):itemsOf s false (.ref r)=some (d.map (·.1)):=by
 show (match dictAt (.ref r) s with | some p=>some (p.2.map fun q:V×V=>q.1) | none=>(seqOf s (.ref r)).map fun q:Bool×List V=>q.2)=_
 rw [dict_at h]
theorem stays_self (s:MS) (v:V) (b:Bool):stays s s b v=true:=by
 cases b with
 | true=>rfl
 | false=>cases v <;> first | rfl | (show (decide _ && (_ || decide _))=true; rw [decide_eq_true rfl,decide_eq_true rfl,Bool.or_true]; rfl)
theorem kget_nodup {key:Key}{r:Row}:∀ {k:Known},(k.map (·.1)).Nodup→(key,r)∈k→kget key k=some r
 | [],_,h=>by cases h
 | (a,r') :: l,nd,h=>by
  rw [List.map_cons,List.nodup_cons] at nd
  rcases List.mem_cons.1 h with h | h
  ·cases h; exact if_pos rfl
  ·by_cases e:a=key
   ·exact (nd.1 (e ▸ List.mem_map.2 ⟨_,h,rfl⟩)).elim
   ·exact (if_neg e).trans (kget_nodup nd.2 h)
noncomputable def rowIs (k:Known) (st:St) (v:V):Bool:=match v with
 | .str key=>(match kget key k with | some r=>decide (r.st=st) | none=>false)
 | _=>false
theorem filter_rows {k:Known}{st:St} (nd:(k.map (·.1)).Nodup):((knownD k).map (·.1)).filter (rowIs k st)=(k.filter fun p=>decide (p.2.st=st)).map fun p=>V.str p.1:=by
 have e:(knownD k).map (·.1)=k.map fun p=>V.str p.1:=by rw [knownD,List.map_map]; rfl
 rw [e,List.filter_map]
 congr 1
 refine List.filter_congr fun p hp=>?_
 show (match kget p.1 k with | some r=>decide (r.st=st) | none=>false)=_
 rw [kget_nodup nd hp]
theorem mem_known {k:Known}{v:V} (h:v∈(knownD k).map (·.1)):∃ key r,v=.str key∧kget key k=some r:=by
 obtain ⟨p,hp,rfl⟩:=List.mem_map.1 h
 obtain ⟨q,hq,rfl⟩:=List.mem_map.1 hp
 obtain ⟨r,hr⟩:=kget_of (List.mem_map.2 ⟨q,hq,rfl⟩)
 exact ⟨q.1,r,rfl,hr⟩
theorem comp_owes {C:Calls}{L:Loc} (a:HAt s i x h) (z:HZ h) (nd:(h.known.map (·.1)).Nodup) :
  compLoop s false (.ref (4,x.k)) 1 (evC P C (some (.cmp (.sub (.sub (.attr (.loc 0) 4) (.loc 1)) (.int 0)) .eq (.str [111,119,101,115])))) (ev P C (.loc 1)) [some (.ref (2,i)),none] [] ((knownD h.known).map (·.1)) s=.ok (h.owes.map .str) s:=by
 have ho:=a.o
 have hkn:=a.k
 have hl:(0:Nat) + ((knownD h.known).map (·.1)).length≤sizeMax:=by have:=len_known z.k; rw [List.length_map]; show _≤16777216; lia
 refine (comp_fm s s false (.ref (4,x.k)) 1 _ _ _ (rowIs h.known .owes) id (stays_self _ _ _) _ [] ?_ ?_ hl).trans ?_
 ·intro v hv
  obtain ⟨key,r,rfl,hk⟩:=mem_known hv
  have hd:=row_of hk
  show ev P C _ [some (.ref (2,i)),some (.str key)] s=.ok (.bool (match kget key h.known with | some r=>decide (r.st=.owes) | none=>false)) s
  rw [hk]
  show _=Res.ok (V.bool (decide (r.st=.owes))) s
  rw [← st_owes]
  (repeat' first | exact rfl | apply e_attr | apply e_sub | apply e_cmp | exact ga_ok (by assumption) rfl | exact i_dict _ _ _ _ _ (by assumption) (by first | exact rfl | assumption))
 ·intro v hv _
  rfl
 ·rw [filter_rows nd,List.map_id,HS.owes,List.map_map]; rfl
include H
theorem run_owes {fo:Fn} (hfo:fo=f_House_owes) (hf:P.fns 22=some fo) (n:Nat) (a:HAt s i x h) (z:HZ h) (nd:(h.known.map (·.1)).Nodup) :
  run P (n + 1) 22 [.ref (2,i)] s=.ok (.ref (14,s.cnt 14)) (s.new 14 (.list (h.owes.map .str))):=by
 subst hfo
 have ho:=a.o
 have hkn:=a.k
 refine okr_eq (okr_run hf rfl ?_)
 exact st_ret (e_compM (src:=.ref (4,x.k)) (by (repeat' first | exact rfl | apply e_attr | exact ga_ok (by assumption) rfl)) (items_dict hkn) (comp_owes (L:=[]) a z nd)) ⟨rfl,rfl⟩
omit H
theorem kput_kput (key:Key) (a b:Row):∀ k:Known,kput key b (kput key a k)=kput key b k
 | []=>if_pos rfl
 | (c,r) :: l=>by
  by_cases h:c=key
  ·rw [kput,if_pos h,kput,if_pos h,kput,if_pos h]
  ·rw [kput,if_neg h,kput,if_neg h,kput_kput key a b l,kput,if_neg h]
noncomputable def row0 (num:Int):Row:=if num=0 then ⟨.here,0,0,[]⟩ else ⟨.gone,-1,0,[]⟩
noncomputable def KeysV (kv:V) (ks:List Key) (s:MS):Prop:=kv=.lst (ks.map .str)∨∃ r:Lbl,kv=.ref r∧r.1≠2∧r.1≠4∧r.2 < s.cnt r.1∧s.heap r=some (.list (ks.map .str))
theorem dict_no {s:MS}{r:Lbl}{l:List V} (h:s.heap r=some (.list l)):dictAt (.ref r) s=none:=by
 show (match s.heap r with | some (.dict l)=>some (r,l) | _=>none)=_
 rw [h]
theorem items_list {s:MS}{r:Lbl}{l:List V} (h:s.heap r=some (.list l)):itemsOf s false (.ref r)=some l:=by
 show (match dictAt (.ref r) s with | some p=>some (p.2.map fun q:V×V=>q.1) | none=>(seqOf s (.ref r)).map fun q:Bool×List V=>q.2)=_
 rw [dict_no h,seq_ref h]; rfl
theorem KeysV.items {kv:V}{ks:List Key}{s:MS} (h:KeysV kv ks s):itemsOf s false kv=some (ks.map .str):=by
 rcases h with rfl | ⟨r,rfl,-,-,-,h⟩
 ·rfl
 ·exact items_list h
theorem KeysV.stays {F:Lbl→Prop}{kv:V}{ks:List Key}{s t:MS} (h:KeysV kv ks s) (f:Fr F s t) (hF:∀ l,F l→l.1=2∨l.1=4):stays s t false kv=true:=by
 rcases h with rfl | ⟨r,rfl,h2,h4,hc,h⟩
 ·rfl
 ·show (decide _ && ((dictAt (.ref r) s).isNone || _))=true
  rw [decide_eq_true (f.1 r hc fun q=>(hF r q).elim h2 h4).symm,dict_no h]; rfl
theorem KeysV.step {F:Lbl→Prop}{kv:V}{ks:List Key}{s t:MS} (h:KeysV kv ks s) (f:Fr F s t) (hF:∀ l,F l→l.1=2∨l.1=4):KeysV kv ks t:=by
 rcases h with rfl | ⟨r,rfl,h2,h4,hc,h⟩
 ·exact .inl rfl
 ·exact .inr ⟨r,rfl,h2,h4,Nat.lt_of_lt_of_le hc (f.2 _),(f.1 r hc fun q=>(hF r q).elim h2 h4).trans h⟩
include H
omit H in
theorem Fr.fresh {F:Lbl→Prop}{s t u:MS}{r:Lbl} (a:Fr F s t) (b:Fr (At1 r) t u) (h:s.cnt r.1≤r.2):Fr F s u :=
 ⟨fun x hx n=>(b.1 x (Nat.lt_of_lt_of_le hx (a.2 _)) fun (e:x=r)=>Nat.not_lt_of_le h (e ▸ hx)).trans (a.1 x hx n),fun k=>Nat.le_trans (a.2 k) (b.2 k)⟩
omit H in
theorem kput_le (key:Key) (a:Row):∀ k:Known,(kput key a k).length≤k.length + 1
 | []=>Nat.le_refl _
 | p :: l=>by
  rw [kput]
  split
  ·exact Nat.le_succ _
  ·exact Nat.succ_le_succ (kput_le key a l)
noncomputable def obj2 (num:Int) (d:Nat):MObj:=.inst 1 [(0,.int num),(4,.ref (4,d))]
noncomputable def initL (num:Int) (kv:V) (i:Nat) (y:Option V):Loc:=[some (.ref (2,i)),some (.int num),some kv,y]
omit H in
theorem init_tail {C:Calls}{n d:Nat}{l:Loc}{u:MS}{k0:Known}{num:Int}{Q:Fl×Loc→MS→Prop} (hu:u.heap (2,i)=some (obj2 num d)) (e3:u.heap (4,d)=some (.dict (knownD k0))) (hz:k0.length < 1000) (hi:i < u.cnt 2) (hd:d < u.cnt 4)
  (k:∀ t,HAt t i ⟨d,u.cnt 5,u.cnt 6,u.cnt 7⟩ ⟨num,k0,k0,[],[]⟩→Fr (At1 (2,i)) u t→(∀ k,k≠5→k≠6→k≠7→t.cnt k=u.cnt k)→Q (.next,some (.ref (2,i)) :: l) t) :
  OkR (exs P C n initT (some (.ref (2,i)) :: l) u) Q:=by
 refine st_setattr (e_dictC (e_attr rfl (ga_ok hu rfl)) e3 (len_known' hz)) rfl (sa_ok 5 _ ((new_ne (kind_ne (by decide))).trans hu) rfl) (st_setattr rfl rfl (sa_ok 6 _ ((new_ne (kind_ne (by decide))).trans (put_self _ _ _)) rfl) (st_setattr rfl rfl (sa_ok 7 _ ((new_ne (kind_ne (by decide))).trans (put_self _ _ _)) rfl) (st_nil (k _ ⟨put_self _ _ _,by (repeat' first | assumption | exact put_self _ _ _ | exact new_self _ _ _ | refine (put_ne (kind_ne (by decide))).trans ?_ | refine (new_ne (kind_ne (by decide))).trans ?_),by (repeat' first | assumption | exact put_self _ _ _ | exact new_self _ _ _ | refine (put_ne (kind_ne (by decide))).trans ?_ | refine (new_ne (kind_ne (by decide))).trans ?_),?_,(put_ne (kind_ne (by decide))).trans (new_self _ 7 _),hi,hd,Nat.lt_succ_self _,Nat.lt_succ_self _,Nat.lt_succ_self _⟩ (((((((Fr.refl _ _).new _ _).put (at1 _) _).new _ _).put (at1 _) _).new _ _).put (at1 _) _) fun _ h5 h6 h7=>(if_neg h7).trans ((if_neg h6).trans (if_neg h5))))))
 exact (put_ne (kind_ne (by decide))).trans ((new_ne (kind_ne (by decide))).trans ((put_ne (kind_ne (by decide))).trans (new_self _ 6 _)))
omit H in
theorem init_turn {C:Calls}{n d:Nat}{u:MS}{k0:Known}{num:Int}{kv:V}{Q:Fl×Loc→MS→Prop} (key:Key) (hu:u.heap (2,i)=some (obj2 num d)) (e3:u.heap (4,d)=some (.dict (knownD k0))) (hz:k0.length < 1000)
  (k:∀ t:MS,t.heap (4,d)=some (.dict (knownD (kput key (row0 num) k0)))→t.heap (2,i)=some (obj2 num d)→Fr (At1 (4,d)) u t→t.cnt=u.cnt→Q (.next,initL num kv i (some (.str key))) t) :
  OkR (exs P C n initB (initL num kv i (some (.str key))) u) Q:=by
 have hl:∀ {k:Known},k.length≤1000→(knownD k).length < 16777216:=fun h=>by rw [knownD,List.length_map]; exact Nat.lt_of_le_of_lt h (by decide)
 refine st_setitem (v:=rowV ⟨.here,0,0,[]⟩) rfl (e_attr rfl (ga_ok hu rfl)) rfl (setItem_dict _ _ _ _ _ e3 (hl (Nat.le_of_lt hz))) ?_
 rw [dput_known]
 have h1:∀ o,(u.put (4,d) o).heap (2,i)=some (obj2 num d):=fun _=>(put_ne (kind_ne (by decide))).trans hu
 have f1:∀ o,Fr (At1 (4,d)) u (u.put (4,d) o):=fun _=>(Fr.refl _ _).put (at1 _) _
 by_cases hz0:num=0
 ·exact st_if (t:=false) (congrArg (fun q=>Res.ok (V.bool (!q)) _) (decide_eq_true hz0)) (st_next (st_nil (k _ (by rw [row0,if_pos hz0]; exact put_self _ _ _) (h1 _) (f1 _) rfl)))
 ·refine st_if (t:=true) (congrArg (fun q=>Res.ok (V.bool (!q)) _) (decide_eq_false hz0)) (st_setitem (v:=rowV ⟨.gone,-1,0,[]⟩) rfl (e_attr rfl (ga_ok (h1 _) rfl)) rfl (setItem_dict _ _ _ _ _ (put_self _ _ _) (hl (Nat.le_trans (kput_le _ _ _) hz))) ?_)
  rw [dput_known,kput_kput]
  exact st_next (st_nil (k _ (by rw [row0,if_neg hz0]; exact put_self _ _ _) ((put_ne (kind_ne (by decide))).trans (h1 _)) ((f1 _).put (at1 _) _) rfl))
set_option genCtorIdx false in
structure InitI (num:Int) (ks:List Key) (i d:Nat) (t:MS) (rk:List Key) (_:Option V) (u:MS):Prop where
 c:u.cnt=t.cnt
 e:∃ dk,ks=dk ++ rk∧u.heap (4,d)=some (.dict (knownD (HS.new num dk).known))∧(HS.new num dk).known.length≤dk.length
 o:u.heap (2,i)=some (obj2 num d)
 f:Fr (At1 (4,d)) t u
omit H in
theorem init_step {C:Calls}{n d:Nat}{num:Int}{kv:V}{ks rk:List Key}{t u:MS}{key:Key}{y:Option V} (hn:ks.length < 1000) (e:InitI num ks i d t (key :: rk) y u)
  {Q:Fl×Loc→MS→Prop} (k:∀ y u,InitI num ks i d t rk y u→Q (.next,initL num kv i y) u) :
  OkR (exs P C n initB (initL num kv i (some (.str key))) u) Q:=by
 obtain ⟨dk,e1,e3,e4⟩:=e.e
 refine init_turn key e.o e3 (Nat.lt_of_le_of_lt e4 (Nat.lt_of_le_of_lt ?_ hn)) fun t' q1 q2 q3 q4=>k _ t' ⟨q4.trans e.c,⟨dk ++ [key],by rw [e1,List.append_assoc]; rfl,?_⟩,q2,e.f.trans q3⟩
 ·rw [e1,List.length_append]; exact Nat.le_add_right _ _
 ·have e:(HS.new num (dk ++ [key])).known=kput key (row0 num) (HS.new num dk).known:=List.foldl_append ..
  rw [e,List.length_append]; exact ⟨q1,Nat.le_trans (kput_le _ _ _) (Nat.succ_le_succ e4)⟩
omit H in
theorem init_loop {C:Calls}{n d:Nat}{num:Int}{kv:V}{ks:List Key}{t:MS}{Q:Fl×Loc→MS→Prop} (hkt:KeysV kv ks t) (hn:ks.length < 1000) (h2:t.heap (2,i)=some (obj2 num d)) (h3:t.heap (4,d)=some (.dict []))
  (k:∀ y u,InitI num ks i d t [] y u→Q (.next,initL num kv i y) u) :
  OkR (forLoop t false kv (setTT P C (.inl (.loc 3))) (exs P C n initB) (ks.map .str) (initL num kv i none) t) Q :=
 have hs:∀ {u},Fr (At1 (4,d)) t u→stays t u false kv=true:=fun f=>hkt.stays f fun _ e=>.inr (congrArg Prod.fst e)
 okr_forM .str (initL num kv i) (InitI num ks i d t) (fun key rk y u e=>⟨hs e.f,init_step hn e fun y u e=>⟨y,rfl,e⟩⟩) (fun y u e=>⟨hs e.f,k y u e⟩) _ _ _ ⟨rfl,⟨[],rfl,h3,Nat.le_refl _⟩,h2,.refl _ _⟩
theorem run_init (n:Nat) (num:Int) (kv:V) (ks:List Key) (ho:s.heap (2,i)=some (.inst 1 [])) (hi:i < s.cnt 2) (hkv:KeysV kv ks s) (hn:ks.length < 1000) :
  OkR (run P (n + 1) 20 [.ref (2,i),.int num,kv] s) fun v s'=>v=.none∧∃ x:HIx,x.fresh s∧HAt s' i x (HS.new num ks)∧Fr (At1 (2,i)) s s'∧s'.cnt 2=s.cnt 2∧∀ k,7 < k∨k=3→s'.cnt k=s.cnt k:=by
 refine okr_run H.init rfl (st_setattr rfl rfl (sa_ok 0 _ ho rfl) (st_setattr rfl rfl (sa_ok 4 _ ((new_ne (kind_ne (by decide))).trans (put_self _ _ _)) rfl) ?_))
 have f1:Fr (At1 (2,i)) s (((s.put (2,i) (.inst 1 [(0,.int num)])).new 4 (.dict [])).put (2,i) (obj2 num (s.cnt 4))):=(((Fr.refl _ _).put (at1 _) _).new _ _).put (at1 _) _
 have hkt:=hkv.step f1 fun l e=>.inl (congrArg Prod.fst e)
 refine st_for rfl hkt.items rfl (init_loop hkt hn (put_self _ _ _) ((put_ne (kind_ne (by decide))).trans (new_self _ 4 _)) fun y u e=>?_)
 obtain ⟨dk,e1,e3,e4⟩:=e.e
 cases e1.trans (List.append_nil _)
 have c:∀ k,k≠4→u.cnt k=s.cnt k:=fun k hk=>(congrFun e.c k).trans (if_neg hk)
 refine init_tail e.o e3 (Nat.lt_of_le_of_lt e4 hn) (Nat.lt_of_lt_of_eq hi (c 2 (by decide)).symm) (Nat.lt_of_lt_of_eq (Nat.lt_succ_self _) (congrFun e.c 4).symm) fun t a f hc=>⟨rfl,_,⟨Nat.le_refl _,Nat.le_of_eq (c 5 (by decide)).symm,Nat.le_of_eq (c 6 (by decide)).symm,Nat.le_of_eq (c 7 (by decide)).symm⟩,a,(f1.fresh e.f (Nat.le_refl _)).trans f,(hc 2 (by decide) (by decide) (by decide)).trans (c 2 (by decide)),fun k hk=>?_⟩
 have hk:k≠4∧k≠5∧k≠6∧k≠7:=by lia
 exact (hc k hk.2.1 hk.2.2.1 hk.2.2.2).trans (c k hk.1)
theorem make_house (hin:P.inits 1=some (2,20)) (n:Nat) (num:Int) (kv:V) (ks:List Key) (hkv:KeysV kv ks s) (hn:ks.length < 1000) :
  OkR (makeInst P (run P (n + 1)) 1 [.int num,kv] s) fun v s'=>v=.ref (2,s.cnt 2)∧∃ x:HIx,x.fresh s∧HAt s' (s.cnt 2) x (HS.new num ks)∧Fr (fun _=>False) s s'∧s'.cnt 2=s.cnt 2 + 1∧∀ k,7 < k∨k=3→s'.cnt k=s.cnt k:=by
 have f0:Fr (fun _=>False) s (s.new 2 (.inst 1 [])):=(Fr.refl _ _).new _ _
 have h:=run_init H n num kv ks (i:=s.cnt 2) (s:=s.new 2 (.inst 1 [])) (new_self _ _ _) (by rw [cnt_self]; exact Nat.lt_succ_self _) (hkv.step f0 fun _ q=>q.elim) hn
 obtain ⟨v,s',h1,rfl,x,hx,h2,h3,h4,h5⟩:=okr_elim h
 rw [makeInst,hin]
 show OkR (Res.bind (run P (n + 1) 20 [.ref (2,s.cnt 2),.int num,kv] (s.new 2 (.inst 1 []))) _) _
 rw [h1]
 refine ⟨rfl,x,⟨Nat.le_trans (f0.2 4) hx.1,Nat.le_trans (f0.2 5) hx.2.1,Nat.le_trans (f0.2 6) hx.2.2.1,Nat.le_trans (f0.2 7) hx.2.2.2⟩,h2,⟨fun l hl _=>(h3.1 l (Nat.lt_of_lt_of_le hl (f0.2 l.1)) fun (e:l=(2,s.cnt 2))=>by rw [e] at hl; exact Nat.lt_irrefl _ hl).trans (f0.1 l hl fun q=>q),fun k=>Nat.le_trans (f0.2 k) (h3.2 k)⟩,h4.trans (cnt_self _ _ _),fun k hk=>(h5 k hk).trans (if_neg fun e=>absurd (e ▸ hk) (by decide))⟩
end
end Mine
end
section
namespace Mine
noncomputable def LMk:Letter→Prop
 | .parcel _ _ _ _ ms=>MOk ms
 | .call _ c _ _ _=>0≤c∧c < 6
 | _=>True
set_option genCtorIdx false in
structure HInv (h:HS) (ks:List Key) (m:Nat):Prop where
 hk:h.known.map (·.1)=ks
 hw:h.written.map (·.1)=ks
 kk:KOk h.known
 kw:KOk h.written
 lm:∀ L∈h.laid,LMk L
 la:h.laid.length≤m
 fr:h.fresh.length≤m
section
variable {h:HS}{ks:List Key}{m:Nat}{key:Key}{r:Row}
theorem HInv.get (I:HInv h ks m) (hk:key∈ks):∃ r,kget key h.known=some r∧MOk r.marks:=by
 rw [← I.hk] at hk
 obtain ⟨r,hr⟩:=kget_of hk
 exact ⟨r,hr,I.kk _ (kget_mem hr)⟩
theorem HInv.mono (I:HInv h ks m) {m':Nat} (hm:m≤m'):HInv h ks m':=⟨I.hk,I.hw,I.kk,I.kw,I.lm,Nat.le_trans I.la hm,Nat.le_trans I.fr hm⟩
theorem HInv.z (I:HInv h ks m) (hm:m < 16777000) (hks:ks.length≤6):HZ h:=by
 have h1:=congrArg List.length I.hk
 have h2:=congrArg List.length I.hw
 rw [List.length_map] at h1 h2
 exact ⟨Nat.lt_of_le_of_lt I.la hm,Nat.lt_of_le_of_lt I.fr hm,by lia,by lia⟩
theorem KOk.put {k:Known} (hk:KOk k) (key:Key) {r:Row} (hr:MOk r.marks):KOk (kput key r k):=fun p hp=>by
 rcases mem_kput hp with rfl | hp
 ·exact hr
 ·exact hk p hp
theorem mem_snoc {α:Type}{P:α→Prop}{l:List α}{a:α} (h:∀ x∈l,P x) (ha:P a):∀ x∈l ++ [a],P x:=fun x hx=>by
 rcases List.mem_append.1 hx with hx | hx
 ·exact h x hx
 ·rw [List.mem_singleton.1 hx]; exact ha
theorem len_snoc {α:Type}{l:List α}{a:α}{m:Nat} (h:l.length≤m):(l ++ [a]).length≤m + 1:=by rw [List.length_append]; exact Nat.succ_le_succ h
theorem HInv.came (I:HInv h ks m) (L:Letter) (hL:LMk L):HInv (h.came L) ks (m + 1):=by
 cases L with
 | answer=>exact I.mono (Nat.le_succ _)
 | call hh c n key w =>
  cases hk:kget key h.known with
  | none=>rw [came_call0 hk]; exact I.mono (Nat.le_succ _)
  | some r =>
   rw [came_call hk]
   show HInv (if r.st=.here then h.called c n key w r else h) ks (m + 1)
   split
   ·have hf:HInv (h.first c n key w r) ks (m + 1) :=
     ⟨(keys_kput _ _ _ _ hk).trans I.hk,I.hw,I.kk.put _ (MOk.put (I.kk _ (kget_mem hk)) hL.1 hL.2),I.kw,mem_snoc I.lm trivial,len_snoc I.la,len_snoc I.fr⟩
    unfold HS.called
    split
    ·split
     ·exact I.mono (Nat.le_succ _)
     ·split
      ·exact ⟨I.hk,I.hw,I.kk,I.kw,mem_snoc I.lm trivial,len_snoc I.la,Nat.le_succ_of_le I.fr⟩
      ·exact hf
    ·exact hf
   ·exact I.mono (Nat.le_succ _)
 | parcel hh key tn am ms =>
  cases hk:kget key h.known with
  | none=>rw [came_parcel0 hk]; exact I.mono (Nat.le_succ _)
  | some r =>
   rw [came_parcel hk]
   show HInv { h with known:=if r.turn < tn then kput key ⟨.here,tn,am,ms⟩ h.known else h.known,laid:=h.laid ++ [.taken (1 - h.num) key tn] } ks (m + 1)
   split
   ·exact ⟨(keys_kput _ _ _ _ hk).trans I.hk,I.hw,I.kk.put _ hL,I.kw,mem_snoc I.lm trivial,len_snoc I.la,Nat.le_succ_of_le I.fr⟩
   ·exact ⟨I.hk,I.hw,I.kk,I.kw,mem_snoc I.lm trivial,len_snoc I.la,Nat.le_succ_of_le I.fr⟩
 | taken hh key tn =>
  cases hk:kget key h.known with
  | none=>rw [came_taken0 hk]; exact I.mono (Nat.le_succ _)
  | some r =>
   rw [came_taken hk]
   show HInv (if r.st=.owes∧tn=r.turn + 1 then { h with known:=kput key ⟨.gone,r.turn,0,[]⟩ h.known } else h) ks (m + 1)
   split
   ·exact ⟨(keys_kput _ _ _ _ hk).trans I.hk,I.hw,I.kk.put _ trivial,I.kw,I.lm,Nat.le_succ_of_le I.la,Nat.le_succ_of_le I.fr⟩
   ·exact I.mono (Nat.le_succ _)
theorem HInv.move (I:HInv h ks m) (hk:kget key h.known=some r):HInv (h.move key r) ks (m + 1) :=
 ⟨(keys_kput _ _ _ _ hk).trans I.hk,I.hw,I.kk.put _ (I.kk _ (kget_mem hk)),I.kw,mem_snoc I.lm (I.kk _ (kget_mem hk)),len_snoc I.la,Nat.le_succ_of_le I.fr⟩
theorem HInv.write (I:HInv h ks m):HInv h.write ks m:=⟨I.hk,I.hk,I.kk,I.kk,fun _ q=>(List.not_mem_nil q).elim,Nat.zero_le _,Nat.zero_le _⟩
theorem HInv.sleep (I:HInv h ks m):HInv h.sleep ks m:=⟨I.hw,I.hw,I.kw,I.kw,fun _ q=>(List.not_mem_nil q).elim,Nat.zero_le _,Nat.zero_le _⟩
theorem kput_new (key:Key) (x:Row):∀ k:Known,key ∉ k.map (·.1)→kput key x k=k ++ [(key,x)]
 | [],_=>rfl
 | (a,r) :: l,hn=>by
  have h1:¬ a=key:=fun e=>hn (e ▸ List.mem_cons_self ..)
  rw [kput,if_neg h1,kput_new key x l fun q=>hn (List.mem_cons_of_mem _ q)]; rfl
theorem fold_new (x:Row):∀ (ks:List Key) (k:Known),(k.map (·.1) ++ ks).Nodup→ks.foldl (fun k key=>kput key x k) k=k ++ ks.map fun key=>(key,x)
 | [],k,_=>(List.append_nil k).symm
 | key :: ks,k,nd=>by
  have hn:key ∉ k.map (·.1):=fun q=>(List.nodup_append.1 nd).2.2 _ q _ (List.mem_cons_self ..) rfl
  rw [List.foldl_cons,kput_new key x k hn,fold_new x ks,List.append_assoc]; rfl
  rw [List.map_append,List.append_assoc]; exact nd
theorem new_known (num:Int) {ks:List Key} (nd:ks.Nodup):(HS.new num ks).known=ks.map fun key=>(key,row0 num):=fold_new (row0 num) ks [] nd
theorem HInv.new (num:Int) (nd:ks.Nodup):HInv (HS.new num ks) ks 0:=by
 have e:=new_known num nd
 have hk:(HS.new num ks).known.map (·.1)=ks:=by rw [e,List.map_map]; exact List.map_id ks
 have ok:KOk (HS.new num ks).known:=fun p hp=>by
  rw [e] at hp
  obtain ⟨key,-,rfl⟩:=List.mem_map.1 hp
  unfold row0
  split <;> exact trivial
 exact ⟨hk,hk,ok,ok,fun _ q=>(List.not_mem_nil q).elim,Nat.le_refl _,Nat.le_refl _⟩
end
end Mine
end
section
namespace Mine
noncomputable def f_is_whole:Fn:=⟨1,["thing"],[.ret (some (.and [.isinst (.loc 0) [.int],.not (.isinst (.loc 0) [.bool])]))]⟩
noncomputable def f_need_wish (xc:Nat):Fn:=⟨1,["wish"],[.ite (.or [.not (.isinst (.loc 0) [.tuple]),.cmp (.prim .len [.loc 0]) .lt (.int 1),.not (.isinst (.sub (.loc 0) (.int 0)) [.str])]) [.raise xc] [],.ite (.and [.cmp (.sub (.loc 0) (.int 0)) .eq (.str [103,101,116]),.cmp (.prim .len [.loc 0]) .eq (.int 1)]) [.ret none] [],.ite (.or [.cmp (.sub (.loc 0) (.int 0)) .notin (.tup [.str [115,101,116],.str [97,100,100]]),.cmp (.prim .len [.loc 0]) .ne (.int 2),.not (.call 0 [.sub (.loc 0) (.int 1)])]) [.raise xc] [],.ite (.not (.cmp2 (.neg (.gint "GREATEST" 1000000000000000000000000000000)) .le (.sub (.loc 0) (.int 1)) .le (.gint "GREATEST" 1000000000000000000000000000000))) [.raise xc] []]⟩
noncomputable def f_is_key:Fn:=⟨1,["thing","sign"],[.ite (.or [.not (.isinst (.loc 0) [.str]),.not (.cmp2 (.int 1) .le (.prim .len [.loc 0]) .le (.gint "LONGEST" 8))]) [.ret (some (.bool false))] [],.for_ (.inl (.loc 1)) false (.loc 0) [.ite (.cmp (.loc 1) .notin (.gstr "LETTERS" [97,98,99,100,101,102,103,104,105,106,107,108,109,110,111,112,113,114,115,116,117,118,119,120,121,122])) [.ret (some (.bool false))] []],.ret (some (.bool true))]⟩
noncomputable def f_need_world (xc:Nat):Fn:=⟨2,["keys","callers","k"],[.ite (.or [.not (.isinst (.loc 0) [.list]),.not (.cmp2 (.int 1) .le (.prim .len [.loc 0]) .le (.gint "MOST" 6))]) [.raise xc] [],.for_ (.inl (.loc 2)) true (.prim .len [.loc 0]) [.ite (.or [.not (.call 4 [.sub (.loc 0) (.loc 2)]),.cmp (.sub (.loc 0) (.loc 2)) .isin (.slice (.loc 0) none (some (.loc 2)))]) [.raise xc] []],.ite (.or [.not (.call 0 [.loc 1]),.not (.cmp2 (.int 1) .le (.loc 1) .le (.gint "MOST" 6))]) [.raise xc] []]⟩
noncomputable def f_Caller_init:Fn:=⟨2,["self","number"],[.setattr (.loc 0) 0 (.loc 1),.setattr (.loc 0) 1 (.int 0),.setattr (.loc 0) 2 .none,.setattr (.loc 0) 3 (.lstM 8 [])]⟩
noncomputable def f_Caller_begin:Fn:=⟨3,["self","key","wish"],[.setattr (.loc 0) 1 (.bin .add (.attr (.loc 0) 1) (.int 1)),.setattr (.loc 0) 2 (.tup [.attr (.loc 0) 1,.loc 1,.loc 2]),.ret (some (.attr (.loc 0) 1))]⟩
noncomputable def f_Caller_letter:Fn:=⟨2,["self","house","call"],[.assign 2 (.attr (.loc 0) 2),.ret (some (.tup [.str [99,97,108,108],.loc 1,.attr (.loc 0) 0,.sub (.loc 2) (.int 0),.sub (.loc 2) (.int 1),.sub (.loc 2) (.int 2)]))]⟩
noncomputable def f_Caller_asking:Fn:=⟨1,["self"],[.ret (some (.attr (.loc 0) 2))]⟩
noncomputable def f_Caller_answers:Fn:=⟨1,["self"],[.ret (some (.listM 13 (.attr (.loc 0) 3)))]⟩
noncomputable def worldT:List S:=[.setattr (.loc 0) 8 (.prim .list1 [.loc 1]),.setattr (.loc 0) 9 (.lst [.new 1 [.int 0,.loc 1],.new 1 [.int 1,.loc 1]]),.setattr (.loc 0) 10 (.comp none 3 true (.loc 2) none (.new 2 [.loc 3])),.setattr (.loc 0) 11 (.lstM 9 []),.setattr (.loc 0) 12 (.lstM 10 [])]
noncomputable def f_World_init:Fn:=⟨3,["self","keys","callers",""],.expr (.call 5 [.loc 1,.loc 2]) :: worldT⟩
noncomputable def f_World_need_caller (xc:Nat):Fn:=⟨2,["self","caller"],[.ite (.or [.not (.call 0 [.loc 1]),.not (.cmp2 (.int 0) .le (.loc 1) .lt (.prim .len [.attr (.loc 0) 10]))]) [.raise xc] []]⟩
noncomputable def f_World_need_house (xc:Nat):Fn:=⟨2,["self","house"],[.ite (.or [.not (.call 0 [.loc 1]),.not (.cmp2 (.int 0) .le (.loc 1) .lt (.int 2))]) [.raise xc] []]⟩
noncomputable def f_World_need_key (xc:Nat):Fn:=⟨2,["self","key"],[.ite (.or [.not (.isinst (.loc 1) [.str]),.cmp (.loc 1) .notin (.attr (.loc 0) 8)]) [.raise xc] []]⟩
noncomputable def f_World_need_place (xc:Nat):Fn:=⟨2,["self","place"],[.ite (.or [.not (.call 0 [.loc 1]),.not (.cmp2 (.int 0) .le (.loc 1) .lt (.prim .len [.attr (.loc 0) 11]))]) [.raise xc] []]⟩
noncomputable def f_World_call (xc:Nat):Fn:=⟨5,["self","caller","house","key","wish","number"],[.expr (.meth (.loc 0) 13 [.loc 1]),.expr (.meth (.loc 0) 14 [.loc 2]),.expr (.meth (.loc 0) 15 [.loc 3]),.expr (.call 1 [.loc 4]),.ite (.isC true (.meth (.sub (.attr (.loc 0) 10) (.loc 1)) 11 []) .none) [.raise xc] [],.assign 5 (.meth (.sub (.attr (.loc 0) 10) (.loc 1)) 9 [.loc 3,.loc 4]),.expr (.bm .append (.attr (.loc 0) 11) [.meth (.sub (.attr (.loc 0) 10) (.loc 1)) 10 [.loc 2]]),.ret (some (.loc 5))]⟩
noncomputable def f_World_letters:Fn:=⟨1,["self"],[.ret (some (.listM 11 (.attr (.loc 0) 11)))]⟩
noncomputable def f_World_brought:Fn:=⟨2,["self","letter"],[.ite (.cmp (.sub (.loc 1) (.int 0)) .eq (.str [97,110,115,119,101,114])) [.expr (.meth (.sub (.attr (.loc 0) 10) (.sub (.loc 1) (.int 1))) 2 [.sub (.loc 1) (.int 2),.sub (.loc 1) (.int 3)])] [.expr (.meth (.sub (.attr (.loc 0) 9) (.sub (.loc 1) (.int 1))) 2 [.loc 1])]]⟩
noncomputable def f_World_hand:Fn:=⟨2,["self","place"],[.expr (.meth (.loc 0) 16 [.loc 1]),.expr (.meth (.loc 0) 20 [.bm .pop (.attr (.loc 0) 11) [.loc 1]])]⟩
noncomputable def f_World_twice:Fn:=⟨2,["self","place"],[.expr (.meth (.loc 0) 16 [.loc 1]),.expr (.meth (.loc 0) 20 [.sub (.attr (.loc 0) 11) (.loc 1)])]⟩
noncomputable def f_World_ledger:Fn:=⟨1,["self"],[.ret (some (.listM 12 (.attr (.loc 0) 12)))]⟩
noncomputable def f_World_asking:Fn:=⟨2,["self","caller"],[.expr (.meth (.loc 0) 13 [.loc 1]),.ret (some (.meth (.sub (.attr (.loc 0) 10) (.loc 1)) 11 []))]⟩
noncomputable def f_World_answers:Fn:=⟨2,["self","caller"],[.expr (.meth (.loc 0) 13 [.loc 1]),.ret (some (.meth (.sub (.attr (.loc 0) 10) (.loc 1)) 12 []))]⟩
set_option genCtorIdx false in
structure WorldP (P:Prog):Prop where
 whole:P.fns 0=some f_is_whole
 ncal:∃ xc,P.fns 41=some (f_World_need_caller xc)
 nhou:∃ xc,P.fns 42=some (f_World_need_house xc)
 nkey:∃ xc,P.fns 43=some (f_World_need_key xc)
 npla:∃ xc,P.fns 44=some (f_World_need_place xc)
 cask:P.fns 14=some f_Caller_asking
 clet:P.fns 12=some f_Caller_letter
 brou:P.fns 48=some f_World_brought
 m13:P.meths 0 13=some 41
 m14:P.meths 0 14=some 42
 m15:P.meths 0 15=some 43
 m16:P.meths 0 16=some 44
 m20:P.meths 0 20=some 48
 c9:P.meths 2 9=some 11
 c10:P.meths 2 10=some 12
 c11:P.meths 2 11=some 14
noncomputable def hn:Bool→Int
 | false=>0
 | true=>1
noncomputable def hx:Bool→Nat
 | false=>0
 | true=>1
noncomputable def upd {α:Type} (f:Bool→α) (i:Bool) (v:α):Bool→α:=fun k=>if k=i then v else f k
section
variable {α:Type}{f:Bool→α}{i k:Bool}{v:α}
theorem upd_self:upd f i v i=v:=if_pos rfl
theorem upd_ne (h:k≠i):upd f i v k=f k:=if_neg h
theorem upd_all {P:Bool→α→Prop} (h:P i v) (g:∀ k,k≠i→P k (f k)):∀ k,P k (upd f i v k):=fun k=>by
 by_cases e:k=i
 ·subst e; rw [upd_self]; exact h
 ·rw [upd_ne e]; exact g k e
end
theorem hx_inj {i k:Bool} (h:k≠i):hx k≠hx i:=by
 cases i <;> cases k <;> first | exact absurd rfl h | decide
set_option genCtorIdx false in
structure HH (s:MS) (x:Bool→HIx) (h:Bool→HS):Prop where
 at_:∀ i,HAt s (hx i) (x i) (h i)
 k:(x false).k≠(x true).k
 w:(x false).w≠(x true).w
 la:(x false).la≠(x true).la
 fr:(x false).fr≠(x true).fr
noncomputable def NH (l:Lbl):Prop:=l.1≠2∧l.1≠4∧l.1≠5∧l.1≠6∧l.1≠7
theorem hf_nh {i:Nat}{x:HIx}{l:Lbl} (q:HF i x l):¬ NH l:=fun z=>by
 rcases q with rfl | rfl | rfl | rfl | rfl
 ·exact z.1 rfl
 ·exact z.2.1 rfl
 ·exact z.2.2.1 rfl
 ·exact z.2.2.2.1 rfl
 ·exact z.2.2.2.2 rfl
section
variable {s s':MS}{x:Bool→HIx}{h:Bool→HS}{i:Bool}
theorem HH.step (a:HH s x h) (f:Fr NH s s'):HH s' x h:=⟨fun i=>(a.at_ i).step f fun l q z=>hf_nh q z,a.k,a.w,a.la,a.fr⟩
theorem HH.ne (a:HH s x h) {i k:Bool} (e:k≠i):∀ l,HF (hx k) (x k) l→¬ HF (hx i) (x i) l:=by
 have sy:∀ {α:Type}{g:Bool→α},g false≠g true→g k≠g i:=by
  intro α g hg
  cases i <;> cases k <;> first | exact absurd rfl e | exact hg | exact hg.symm
 have h1:=hx_inj e
 have h2:=sy (g:=fun i=>(x i).k) a.k
 have h3:=sy (g:=fun i=>(x i).w) a.w
 have h4:=sy (g:=fun i=>(x i).la) a.la
 have h5:=sy (g:=fun i=>(x i).fr) a.fr
 rintro l (rfl | rfl | rfl | rfl | rfl) (q | q | q | q | q) <;> first | exact absurd (congrArg Prod.fst q) (of_decide_eq_true rfl) | skip
 ·exact h1 (congrArg Prod.snd q)
 ·exact h2 (congrArg Prod.snd q)
 ·exact h3 (congrArg Prod.snd q)
 ·exact h4 (congrArg Prod.snd q)
 ·exact h5 (congrArg Prod.snd q)
theorem HH.deed (a:HH s x h) {h':HS} (g:HAt s' (hx i) (x i) h') (f:Fr (HF (hx i) (x i)) s s'):HH s' x (upd h i h') :=
 ⟨upd_all (P:=fun k g=>HAt s' (hx k) (x k) g) g fun k e=>(a.at_ k).step f (a.ne e),a.k,a.w,a.la,a.fr⟩
end
set_option genCtorIdx false in
structure CS where
 begun:Int
 op:Option (Int×Key×W)
 closed:List (Int×Int)
noncomputable def opV:Option (Int×Key×W)→V
 | none=>.none
 | some p=>.tup [.int p.1,.str p.2.1,wv p.2.2]
noncomputable def ansV (p:Int×Int):V:=.tup [.int p.1,.int p.2]
noncomputable def cObj (i:Nat) (c:CS):MObj:=.inst 2 [(0,.int i),(1,.int c.begun),(2,opV c.op),(3,.ref (8,i))]
set_option genCtorIdx false in
structure WS where
 nc:Nat
 h:Bool→HS
 c:Nat→CS
 post:List Letter
 rows:List LRow
noncomputable def callersV (nc:Nat):List V:=(List.range nc).map fun (i:Nat)=>.ref (3,i)
noncomputable def wObj (ks:List Key) (nc:Nat):MObj:=.inst 0 [(8,.lst (ks.map .str)),(9,.lst [.ref (2,0),.ref (2,1)]),(10,.lst (callersV nc)),(11,.ref (9,0)),(12,.ref (10,0))]
set_option genCtorIdx false in
structure WAt (s:MS) (ks:List Key) (W:WS) (x:Bool→HIx):Prop where
 o:s.heap (1,0)=some (wObj ks W.nc)
 hh:HH s x W.h
 co:∀ i,i < W.nc→s.heap (3,i)=some (cObj i (W.c i))
 cl:∀ i,i < W.nc→s.heap (8,i)=some (.list ((W.c i).closed.map ansV))
 po:s.heap (9,0)=some (.list (W.post.map letV))
 ro:s.heap (10,0)=some (.list (W.rows.map lrowV))
 i1:0 < s.cnt 1
 i3:W.nc≤s.cnt 3
 i8:W.nc≤s.cnt 8
 i9:0 < s.cnt 9
 i10:0 < s.cnt 10
noncomputable def NW (l:Lbl):Prop:=11≤l.1
section
variable {s s':MS}{ks:List Key}{W:WS}{x:Bool→HIx}
theorem nw_nh {l:Lbl} (h:NW l):NH l:=by
 have h:11≤l.1:=h
 exact ⟨by lia,by lia,by lia,by lia,by lia⟩
theorem WAt.step (a:WAt s ks W x) (f:Fr NW s s'):WAt s' ks W x where
 o:=(f.1 (1,0) a.i1 (of_decide_eq_true (p:=¬ 11≤1) rfl)).trans a.o
 hh:=a.hh.step (f.mono fun _=>nw_nh)
 co i hi:=(f.1 (3,i) (Nat.lt_of_lt_of_le hi a.i3) (of_decide_eq_true (p:=¬ 11≤3) rfl)).trans (a.co i hi)
 cl i hi:=(f.1 (8,i) (Nat.lt_of_lt_of_le hi a.i8) (of_decide_eq_true (p:=¬ 11≤8) rfl)).trans (a.cl i hi)
 po:=(f.1 (9,0) a.i9 (of_decide_eq_true (p:=¬ 11≤9) rfl)).trans a.po
 ro:=(f.1 (10,0) a.i10 (of_decide_eq_true (p:=¬ 11≤10) rfl)).trans a.ro
 i1:=Nat.lt_of_lt_of_le a.i1 (f.2 _)
 i3:=Nat.le_trans a.i3 (f.2 _)
 i8:=Nat.le_trans a.i8 (f.2 _)
 i9:=Nat.lt_of_lt_of_le a.i9 (f.2 _)
 i10:=Nat.lt_of_lt_of_le a.i10 (f.2 _)
noncomputable def HO (l:Lbl):Prop:=l.1=2∨l.1=4∨l.1=5∨l.1=6∨l.1=7
theorem WAt.houses (a:WAt s ks W x) (f:Fr HO s s') {x':Bool→HIx}{h':Bool→HS} (hh:HH s' x' h'):WAt s' ks { W with h:=h' } x' where
 o:=(f.1 (1,0) a.i1 (of_decide_eq_true (p:=¬ (1=2∨1=4∨1=5∨1=6∨1=7)) rfl)).trans a.o
 hh:=hh
 co i hi:=(f.1 (3,i) (Nat.lt_of_lt_of_le hi a.i3) (of_decide_eq_true (p:=¬ (3=2∨3=4∨3=5∨3=6∨3=7)) rfl)).trans (a.co i hi)
 cl i hi:=(f.1 (8,i) (Nat.lt_of_lt_of_le hi a.i8) (of_decide_eq_true (p:=¬ (8=2∨8=4∨8=5∨8=6∨8=7)) rfl)).trans (a.cl i hi)
 po:=(f.1 (9,0) a.i9 (of_decide_eq_true (p:=¬ (9=2∨9=4∨9=5∨9=6∨9=7)) rfl)).trans a.po
 ro:=(f.1 (10,0) a.i10 (of_decide_eq_true (p:=¬ (10=2∨10=4∨10=5∨10=6∨10=7)) rfl)).trans a.ro
 i1:=Nat.lt_of_lt_of_le a.i1 (f.2 _)
 i3:=Nat.le_trans a.i3 (f.2 _)
 i8:=Nat.le_trans a.i8 (f.2 _)
 i9:=Nat.lt_of_lt_of_le a.i9 (f.2 _)
 i10:=Nat.lt_of_lt_of_le a.i10 (f.2 _)
theorem nh_put {l:Lbl} (h:NH l) (o:MObj):Fr NH s (s.put l o):=(Fr.refl _ _).put h o
theorem WAt.setPost (a:WAt s ks W x) (l:List Letter):WAt (s.put (9,0) (.list (l.map letV))) ks { W with post:=l } x :=
 ⟨(put_ne (kind_ne (by decide))).trans a.o,a.hh.step (nh_put (l:=(9,0)) (of_decide_eq_true (p:=9≠2∧9≠4∧9≠5∧9≠6∧9≠7) rfl) _),fun i hi=>(put_ne (kind_ne (by decide))).trans (a.co i hi),fun i hi=>(put_ne (kind_ne (by decide))).trans (a.cl i hi),put_self _ _ _,(put_ne (kind_ne (by decide))).trans a.ro,a.i1,a.i3,a.i8,a.i9,a.i10⟩
end
section
variable {P:Prog} (H:WorldP P) {n:Nat}{s:MS}{ks:List Key}{W:WS}{x:Bool→HIx}{i:Nat}
theorem e_cmp2 {C:Calls}{l:Loc}{a b c:E}{o o2:Cop}{x y z v:V} (ha:ev P C a l s=.ok x s) (hb:ev P C b l s=.ok y s) (h1:cmpOp o x y s=.ok (.bool true) s) (hc:ev P C c l s=.ok z s) (h2:cmpOp o2 y z s=.ok v s):ev P C (.cmp2 a o b o2 c) l s=.ok v s:=by
 rw [ev_cmp2,ha]
 show Res.bind (ev P C b l s) _=_
 rw [hb]
 show Res.bind (cmpOp o x y s) _=_
 rw [h1]
 show Res.bind (ev P C c l s) _=_
 rw [hc]; exact h2
theorem e_rngT {C:Calls}{l:Loc}{a b c:E}{x y z:Int} (ha:ev P C a l s=.ok (.int x) s) (hb:ev P C b l s=.ok (.int y) s) (hc:ev P C c l s=.ok (.int z) s) (h1:x≤y) (h2:y < z):ev P C (.cmp2 a .le b .lt c) l s=.ok (.bool true) s :=
 e_cmp2 ha hb (congrArg (fun q=>Res.ok (V.bool q) s) (decide_eq_true h1)) hc (congrArg (fun q=>Res.ok (V.bool q) s) (decide_eq_true h2))
theorem e_rngL {C:Calls}{l:Loc}{a b c:E}{x y z:Int} (ha:ev P C a l s=.ok (.int x) s) (hb:ev P C b l s=.ok (.int y) s) (hc:ev P C c l s=.ok (.int z) s) (h1:x≤y) (h2:y≤z):ev P C (.cmp2 a .le b .le c) l s=.ok (.bool true) s :=
 e_cmp2 ha hb (congrArg (fun q=>Res.ok (V.bool q) s) (decide_eq_true h1)) hc (congrArg (fun q=>Res.ok (V.bool q) s) (decide_eq_true h2))
theorem callers_len (nc:Nat):(callersV nc).length=nc:=by rw [callersV,List.length_map,List.length_range]
theorem callers_at {nc:Nat} (hi:i < nc) (s:MS):getItem (.lst (callersV nc)) (.int i) s=.ok (.ref (3,i)) s:=by
 have h:i < (callersV nc).length:=by rw [callers_len]; exact hi
 refine (i_seq (s:=s) (a:=.lst (callersV nc)) (k:=true) rfl i h).trans ?_
 congr 1
 rw [show (callersV nc)[i]=V.ref (3,(List.range nc)[i]'(by rw [List.length_range]; exact hi)) from List.getElem_map ..,List.getElem_range]
theorem vin_key {key:Key} (s:MS):∀ {ks:List Key},key∈ks→vin s (.str key) (ks.map .str)=some true
 | k :: ks,h=>by
  have e:vin s (.str key) ((k :: ks).map .str)=(match some (decide (k=key)),vin s (.str key) (ks.map .str) with | some p,some q=>some (p || q) | _,_=>none):=rfl
  rw [e]
  by_cases hk:k=key
  ·have:∀ l:List Key,∃ q,vin s (.str key) (l.map .str)=some q:=fun l=>by
    induction l with
    | nil=>exact ⟨false,rfl⟩
    | cons a l ih =>
     obtain ⟨q,hq⟩:=ih
     refine ⟨decide (a=key) || q,?_⟩
     show (match some (decide (a=key)),vin s (.str key) (l.map .str) with | some p,some q=>some (p || q) | _,_=>none)=_
     rw [hq]
   obtain ⟨q,hq⟩:=this ks
   rw [hq,decide_eq_true hk]; rfl
  ·rw [vin_key s ((List.mem_cons.1 h).resolve_left fun q=>hk q.symm)]
   show some (_ || true)=_
   rw [Bool.or_true]
include H
theorem run_whole (n:Nat) (i:Int) (s:MS):run P (n + 1) 0 [.int i] s=.ok (.bool true) s:=okr_eq (okr_run H.whole rfl (st_ret rfl ⟨rfl,rfl⟩))
theorem need_caller (n:Nat) (a:WAt s ks W x) (hi:i < W.nc):run P (n + 2) 41 [.ref (1,0),.int i] s=.ok .none s:=by
 obtain ⟨xc,hf⟩:=H.ncal
 refine okr_eq (okr_run hf rfl ?_)
 have hw:=run_whole H n i s
 exact st_if (t:=false) (s':=s) (e_orF (e_not (t:=true) (e_call (vs:=[.int i]) rfl hw)) (e_or1 (e_not (t:=true) (e_rngT (x:=0) (y:=i) (z:=(callersV W.nc).length) rfl rfl (e_prim (e_cons (e_attr rfl (ga_ok a.o rfl)) rfl) rfl) (by lia) (by rw [callers_len]; lia))))) (st_next (st_nil ⟨rfl,rfl⟩))
theorem need_house (n:Nat) (b:Bool) (s:MS):run P (n + 2) 42 [.ref (1,0),.int (hn b)] s=.ok .none s:=by
 obtain ⟨xc,hf⟩:=H.nhou
 refine okr_eq (okr_run hf rfl ?_)
 have hw:=run_whole H n (hn b) s
 exact st_if (t:=false) (s':=s) (e_orF (e_not (t:=true) (e_call (vs:=[.int (hn b)]) rfl hw)) (e_or1 (e_not (t:=true) (e_rngT (x:=0) (y:=hn b) (z:=2) rfl rfl rfl (by cases b <;> decide) (by cases b <;> decide))))) (st_next (st_nil ⟨rfl,rfl⟩))
theorem need_key (n:Nat) (a:WAt s ks W x) {key:Key} (hk:key∈ks):run P (n + 1) 43 [.ref (1,0),.str key] s=.ok .none s:=by
 obtain ⟨xc,hf⟩:=H.nkey
 refine okr_eq (okr_run hf rfl ?_)
 refine st_if (t:=false) (s':=s) (e_orF rfl (e_or1 (e_cmp rfl (e_attr rfl (ga_ok a.o rfl)) ?_))) (st_next (st_nil ⟨rfl,rfl⟩))
 show okB s ((vin s (.str key) (ks.map .str)).map (!·))=_
 rw [vin_key s hk]; rfl
theorem need_place (n:Nat) (a:WAt s ks W x) {p:Nat} (hp:p < W.post.length):run P (n + 2) 44 [.ref (1,0),.int p] s=.ok .none s:=by
 obtain ⟨xc,hf⟩:=H.npla
 refine okr_eq (okr_run hf rfl ?_)
 have hw:=run_whole H n p s
 exact st_if (t:=false) (s':=s) (e_orF (e_not (t:=true) (e_call (vs:=[.int p]) rfl hw)) (e_or1 (e_not (t:=true) (e_rngT (x:=0) (y:=p) (z:=(W.post.map letV).length) rfl rfl (e_prim (e_cons (e_attr rfl (ga_ok a.o rfl)) rfl) (len_seq (seq_ref a.po))) (by lia) (by rw [List.length_map]; lia))))) (st_next (st_nil ⟨rfl,rfl⟩))
theorem run_casking (n:Nat) (a:WAt s ks W x) (hi:i < W.nc):run P (n + 1) 14 [.ref (3,i)] s=.ok (opV (W.c i).op) s :=
 okr_eq (okr_run H.cask rfl (st_ret (e_attr rfl (ga_ok (a.co i hi) rfl)) ⟨rfl,rfl⟩))
omit H
theorem e_at {C:Calls}{l:Loc}{a b:E} (A:WAt s ks W x) (hi:i < W.nc) (ha:ev P C a l s=.ok (.ref (1,0)) s) (hb:ev P C b l s=.ok (.int i) s):ev P C (.sub (.attr a 10) b) l s=.ok (.ref (3,i)) s :=
 e_sub (e_attr ha (ga_ok A.o rfl)) hb (callers_at hi s)
theorem houses_at (b:Bool) (s:MS):getItem (.lst [.ref (2,0),.ref (2,1)]) (.int (hn b)) s=.ok (.ref (2,hx b)) s:=by cases b <;> rfl
theorem e_hat {C:Calls}{l:Loc}{a e:E}{b:Bool} (A:WAt s ks W x) (ha:ev P C a l s=.ok (.ref (1,0)) s) (hb:ev P C e l s=.ok (.int (hn b)) s):ev P C (.sub (.attr a 9) e) l s=.ok (.ref (2,hx b)) s :=
 e_sub (e_attr ha (ga_ok A.o rfl)) hb (houses_at b s)
include H
theorem run_wasking (hf:P.fns 59=some f_World_asking) (n:Nat) (a:WAt s ks W x) (hi:i < W.nc):run P (n + 3) 59 [.ref (1,0),.int i] s=.ok (opV (W.c i).op) s:=by
 refine okr_eq (okr_run hf rfl ?_)
 refine st_expr (e_meth (vs:=[.int i]) rfl ((meth_of a.o).trans H.m13) rfl (need_caller H n a hi)) ?_
 exact st_ret (e_meth (e_at a hi rfl rfl) ((meth_of (a.co i hi)).trans H.c11) rfl (run_casking H (n + 1) a hi)) ⟨rfl,rfl⟩
theorem run_wanswers (hc:P.fns 15=some f_Caller_answers) (hm:P.meths 2 12=some 15) (hf:P.fns 60=some f_World_answers) (n:Nat) (a:WAt s ks W x) (hi:i < W.nc):run P (n + 3) 60 [.ref (1,0),.int i] s=.ok (.ref (13,s.cnt 13)) (s.new 13 (.list ((W.c i).closed.map ansV))):=by
 have hans:run P (n + 2) 15 [.ref (3,i)] s=.ok (.ref (13,s.cnt 13)) (s.new 13 (.list ((W.c i).closed.map ansV))):=okr_eq (okr_run hc rfl (st_ret (e_listM (e_attr rfl (ga_ok (a.co i hi) rfl)) (seq_ref (a.cl i hi))) ⟨rfl,rfl⟩))
 refine okr_eq (okr_run hf rfl ?_)
 refine st_expr (e_meth (vs:=[.int i]) rfl ((meth_of a.o).trans H.m13) rfl (need_caller H n a hi)) ?_
 exact st_ret (e_meth (e_at a hi rfl rfl) ((meth_of (a.co i hi)).trans hm) rfl hans) ⟨rfl,rfl⟩
theorem run_wletters (hf:P.fns 47=some f_World_letters) (n:Nat) (a:WAt s ks W x):run P (n + 1) 47 [.ref (1,0)] s=.ok (.ref (11,s.cnt 11)) (s.new 11 (.list (W.post.map letV))) :=
 okr_eq (okr_run hf rfl (st_ret (e_listM (e_attr rfl (ga_ok a.o rfl)) (seq_ref a.po)) ⟨rfl,rfl⟩))
theorem run_wledger (hf:P.fns 58=some f_World_ledger) (n:Nat) (a:WAt s ks W x):run P (n + 1) 58 [.ref (1,0)] s=.ok (.ref (12,s.cnt 12)) (s.new 12 (.list (W.rows.map lrowV))) :=
 okr_eq (okr_run hf rfl (st_ret (e_listM (e_attr rfl (ga_ok a.o rfl)) (seq_ref a.ro)) ⟨rfl,rfl⟩))
omit H
theorem map_erase {α:Type} (f:α→V):∀ (l:List α) (p:Nat),(l.map f).eraseIdx p=(l.eraseIdx p).map f
 | [],_=>rfl
 | _ :: _,0=>rfl
 | a :: l,p + 1=>congrArg (f a :: ·) (map_erase f l p)
theorem WAt.pop (a:WAt s ks W x) (p:Nat):WAt (s.put (9,0) (.list ((W.post.map letV).eraseIdx p))) ks { W with post:=W.post.eraseIdx p } x:=by
 rw [map_erase]; exact a.setPost _
include H
end
end Mine
end
section
namespace Mine
section
variable {P:Prog} (H:WorldP P) {n:Nat}{s:MS}{ks:List Key}
set_option genCtorIdx false in
structure KeyFine (k:Key):Prop where
 pos:1≤k.length
 eig:k.length≤8
 abc:∀ c∈k,97≤c∧c≤122
theorem abc_all:∀ i:Fin 26,abc.contains (97 + i.1)=true:=by decide
theorem abc_mem {c:Nat} (h:97≤c∧c≤122):c∈abc:=by
 have:=abc_all ⟨c - 97,by omega⟩
 rw [show 97 + (⟨c - 97,by omega⟩:Fin 26).1=c from by show 97 + (c - 97)=c; omega] at this
 exact List.contains_iff_mem.1 this
theorem sl_take (l:List V) (i:Nat) (s:MS):getSlice (.lst l) none (some (.int i)) s=.ok (.lst (l.take i)) s:=by
 show (match some 0,(if (0:Int)≤i then some (i:Int).toNat else none) with | some i,some j=>Res.ok (V.lst ((l.take j).drop i)) s | _,_=>.stuck)=_
 rw [if_pos (Int.natCast_nonneg i)]; rfl
set_option genCtorIdx false in
structure KeysFine (ks:List Key):Prop where
 pos:1≤ks.length
 six:ks.length≤6
 nd:ks.Nodup
 all:∀ k∈ks,KeyFine k
include H
omit H
theorem okr_compR {C:Calls}{s₀:MS}{nc slot:Nat}{e:E}{l:Loc} (f:Nat→V) (I:Nat→MS→Prop) (hz:nc≤1000)
  (he:∀ j s,j < nc→I j s→OkR (ev P C e (l.set slot (some (.int j))) s) fun v t=>v=f j∧I (j + 1) t) :
  ∀ (m j:Nat) (s:MS),j + m=nc→I j s→OkR (compLoop s₀ true (.int nc) slot none (ev P C e) l ((List.range j).map f) ((List.range' j m).map fun (i:Nat)=>V.int i) s) fun vs t=>vs=(List.range nc).map f∧I nc t
 | 0,j,s,hj,h=>by
  have hj:j=nc:=hj
  subst hj
  rw [show (List.range' j 0).map (fun (i:Nat)=>V.int i)=[] from rfl,compLoop_nil]
  exact ⟨rfl,h⟩
 | m + 1,j,s,hj,h=>by
  rw [List.range'_succ,List.map_cons,compLoop_cons]
  show OkR (Res.bind (ev P C e (l.set slot (some (.int j))) s) _) _
  obtain ⟨v,t,e1,rfl,h1⟩:=okr_elim (he j s (by lia) h)
  rw [e1]
  show OkR (if ((List.range j).map f).length < sizeMax then _ else _) _
  rw [if_pos (by rw [List.length_map,List.length_range]; show _ < 16777216; lia)]
  have ih:=okr_compR (s₀:=s₀) f I hz he m (j + 1) t (by lia) h1
  rw [List.range_succ,List.map_append] at ih
  exact ih
noncomputable def c0:CS:=⟨0,none,[]⟩
theorem fr_own {F:Lbl→Prop}{s':MS} (a:Fr F s s') {l:Lbl} (h:s.cnt l.1≤l.2) (o:MObj):Fr F s (s'.put l o) :=
 ⟨fun x hx n=>(put_ne fun (e:x=l)=>by rw [e] at hx; lia).trans (a.1 x hx n),a.2⟩
theorem make_caller (hin:P.inits 2=some (3,10)) (hf:P.fns 10=some f_Caller_init) (n:Nat) {i:Nat} (h3:s.cnt 3=i) (h8:s.cnt 8=i) :
  ∃ u,makeInst P (run P (n + 1)) 2 [.int i] s=.ok (.ref (3,i)) u∧u.heap (3,i)=some (cObj i c0)∧u.heap (8,i)=some (.list [])∧Fr (fun _=>False) s u∧u.cnt 3=i + 1∧u.cnt 8=i + 1∧∀ k,k≠3→k≠8→u.cnt k=s.cnt k:=by
 subst h3
 have q0:(s.new 3 (.inst 2 [])).heap (3,s.cnt 3)=some (.inst 2 []):=new_self _ _ _
 have f0:Fr (fun _=>False) s (s.new 3 (.inst 2 [])):=(Fr.refl _ _).new _ _
 have c3:(s.new 3 (.inst 2 [])).cnt 3=s.cnt 3 + 1:=rfl
 have ck:∀ k,k≠3→(s.new 3 (.inst 2 [])).cnt k=s.cnt k:=fun k hk=>if_neg hk
 have c8:=(ck 8 (by decide)).trans h8
 have ge:s.cnt 3≤s.cnt 3:=Nat.le_refl _
 have e:∃ u,run P (n + 1) 10 [.ref (3,s.cnt 3),.int (s.cnt 3)] (s.new 3 (.inst 2 []))=.ok .none u∧u.heap (3,s.cnt 3)=some (cObj (s.cnt 3) c0)∧u.heap (8,s.cnt 3)=some (.list [])∧Fr (fun _=>False) s u∧u.cnt 3=s.cnt 3 + 1∧u.cnt 8=s.cnt 3 + 1∧∀ k,k≠3→k≠8→u.cnt k=s.cnt k:=by
  generalize s.new 3 (.inst 2 [])=t at q0 f0 c3 ck c8
  have q1:(t.put (3,s.cnt 3) (.inst 2 [(0,.int (s.cnt 3))])).heap (3,s.cnt 3)=some (.inst 2 [(0,.int (s.cnt 3))]):=put_self _ _ _
  have f1:=fr_own (l:=(3,s.cnt 3)) f0 ge (.inst 2 [(0,.int (s.cnt 3))])
  have q2:((t.put (3,s.cnt 3) (.inst 2 [(0,.int (s.cnt 3))])).put (3,s.cnt 3) (.inst 2 [(0,.int (s.cnt 3)),(1,.int 0)])).heap (3,s.cnt 3)=some (.inst 2 [(0,.int (s.cnt 3)),(1,.int 0)]):=put_self _ _ _
  have f2:=fr_own (l:=(3,s.cnt 3)) f1 ge (.inst 2 [(0,.int (s.cnt 3)),(1,.int 0)])
  have q3:(((t.put (3,s.cnt 3) (.inst 2 [(0,.int (s.cnt 3))])).put (3,s.cnt 3) (.inst 2 [(0,.int (s.cnt 3)),(1,.int 0)])).put (3,s.cnt 3) (.inst 2 [(0,.int (s.cnt 3)),(1,.int 0),(2,.none)])).heap (3,s.cnt 3)=some (.inst 2 [(0,.int (s.cnt 3)),(1,.int 0),(2,.none)]):=put_self _ _ _
  have f3:=fr_own (l:=(3,s.cnt 3)) f2 ge (.inst 2 [(0,.int (s.cnt 3)),(1,.int 0),(2,.none)])
  have k3:(((t.put (3,s.cnt 3) (.inst 2 [(0,.int (s.cnt 3))])).put (3,s.cnt 3) (.inst 2 [(0,.int (s.cnt 3)),(1,.int 0)])).put (3,s.cnt 3) (.inst 2 [(0,.int (s.cnt 3)),(1,.int 0),(2,.none)])).cnt=t.cnt:=rfl
  refine ⟨((((t.put (3,s.cnt 3) (.inst 2 [(0,.int (s.cnt 3))])).put (3,s.cnt 3) (.inst 2 [(0,.int (s.cnt 3)),(1,.int 0)])).put (3,s.cnt 3) (.inst 2 [(0,.int (s.cnt 3)),(1,.int 0),(2,.none)])).new 8 (.list [])).put (3,s.cnt 3) (cObj (s.cnt 3) c0),okr_eq (okr_run hf rfl ?_),put_self _ _ _,?_,fr_own (f3.new 8 _) ge _,c3,congrArg (· + 1) c8,fun k h1 h2=>(if_neg h2).trans (ck k h1)⟩
  ·refine st_setattr (v:=.int (s.cnt 3)) rfl rfl (sa_ok 0 _ q0 rfl) (st_setattr (v:=.int 0) rfl rfl (sa_ok 1 _ q1 rfl) (st_setattr (v:=.none) rfl rfl (sa_ok 2 _ q2 rfl) ?_))
   refine st_setattr (v:=.ref (8,t.cnt 8)) (s':=((((t.put (3,s.cnt 3) (.inst 2 [(0,.int (s.cnt 3))])).put (3,s.cnt 3) (.inst 2 [(0,.int (s.cnt 3)),(1,.int 0)])).put (3,s.cnt 3) (.inst 2 [(0,.int (s.cnt 3)),(1,.int 0),(2,.none)])).new 8 (.list [])).put (3,s.cnt 3) (cObj (s.cnt 3) c0)) rfl rfl ?_ (st_nil ⟨rfl,rfl⟩)
   refine (sa_ok 3 _ ((new_ne (kind_ne (by decide))).trans q3) rfl).trans ?_
   rw [c8]; rfl
  ·refine (put_ne (kind_ne (by decide))).trans ?_
   rw [← c8]; exact new_self _ 8 _
 obtain ⟨u,e1,e2⟩:=e
 refine ⟨u,?_,e2⟩
 rw [makeInst,hin]
 show Res.bind (run P (n + 1) 10 [.ref (3,s.cnt 3),.int (s.cnt 3)] (s.new 3 (.inst 2 []))) _=_
 rw [e1]; rfl
noncomputable def W0 (ks:List Key) (nc:Nat):WS:=⟨nc,fun b=>HS.new (hn b) ks,fun _=>c0,[],[]⟩
set_option genCtorIdx false in
structure CI (s:MS) (j:Nat) (u:MS):Prop where
 c3:u.cnt 3=j
 c8:u.cnt 8=j
 co:∀ i,i < j→u.heap (3,i)=some (cObj i c0)
 cl:∀ i,i < j→u.heap (8,i)=some (.list [])
 fr:Fr (fun _=>False) s u
 ck:∀ k,k≠3→k≠8→u.cnt k=s.cnt k
theorem CI.next {u v:MS}{j:Nat} (a:CI s j u) (h1:v.heap (3,j)=some (cObj j c0)) (h2:v.heap (8,j)=some (.list [])) (f:Fr (fun _=>False) u v) (h3:v.cnt 3=j + 1) (h8:v.cnt 8=j + 1) (hk:∀ k,k≠3→k≠8→v.cnt k=u.cnt k):CI s (j + 1) v:=by
 refine ⟨h3,h8,fun i hi=>?_,fun i hi=>?_,a.fr.trans f,fun k q1 q2=>(hk k q1 q2).trans (a.ck k q1 q2)⟩
 ·by_cases e:i=j
  ·rw [e]; exact h1
  ·exact (f.1 (3,i) (by show i < u.cnt 3; rw [a.c3]; lia) fun q=>q).trans (a.co i (by lia))
 ·by_cases e:i=j
  ·rw [e]; exact h2
  ·exact (f.1 (8,i) (by show i < u.cnt 8; rw [a.c8]; lia) fun q=>q).trans (a.cl i (by lia))
theorem range_range' (n:Nat):List.range n=List.range' 0 n:=List.range_eq_range'
noncomputable def KeysW (kv:V) (ks:List Key) (s:MS):Prop:=kv=.lst (ks.map .str)∨∃ r:Lbl,kv=.ref r∧11≤r.1∧r.2 < s.cnt r.1∧s.heap r=some (.list (ks.map .str))
theorem KeysW.v {kv:V} (h:KeysW kv ks s):KeysV kv ks s :=
 h.imp id fun ⟨r,e,h1,h2,h3⟩=>⟨r,e,Nat.ne_of_gt (Nat.lt_of_lt_of_le (by decide) h1),Nat.ne_of_gt (Nat.lt_of_lt_of_le (by decide) h1),h2,h3⟩
theorem KeysW.step {kv:V}{F:Lbl→Prop}{t:MS} (h:KeysW kv ks s) (f:Fr F s t) (hF:∀ l,F l→l.1 < 11):KeysW kv ks t :=
 h.imp id fun ⟨r,e,h1,h2,h3⟩=>⟨r,e,h1,Nat.lt_of_lt_of_le h2 (f.2 _),(f.1 r h2 fun q=>Nat.not_lt_of_le h1 (hF r q)).trans h3⟩
theorem KeysW.list {kv:V}{C:Calls}{e:E}{l:Loc} (h:KeysW kv ks s) (he:ev P C e l s=.ok kv s):ev P C (.prim .list1 [e]) l s=.ok (.lst (ks.map .str)) s:=by
 rcases h with rfl | ⟨r,rfl,-,-,h⟩
 ·exact e_prim (e_cons he rfl) rfl
 ·refine e_prim (e_cons he rfl) ?_
  show (match seqOf s (.ref r) with | some p=>Res.ok (V.lst p.2) s | none=>.stuck)=_
  rw [seq_ref h]
theorem two_houses (HP:HouseP P) (i1:P.inits 1=some (2,20)) (n:Nat) {kv:V} (hk:KeysW kv ks s) (hn6:ks.length < 1000) (z:s.cnt 2=0) :
  ∃ s1 s2 x,makeInst P (run P (n + 1)) 1 [.int 0,kv] s=.ok (.ref (2,0)) s1∧makeInst P (run P (n + 1)) 1 [.int 1,kv] s1=.ok (.ref (2,1)) s2∧HH s2 x (fun b=>HS.new (hn b) ks)∧Fr (fun _=>False) s s2∧∀ k,7 < k∨k=3→s2.cnt k=s.cnt k:=by
 obtain ⟨v,s1,e1,rfl,x1,-,hH1,u1,c1,m1⟩:=okr_elim (make_house HP i1 n (s:=s) 0 kv ks hk.v hn6)
 obtain ⟨v,s2,e2,rfl,x2,hx2,hH2,u2,c2,m2⟩:=okr_elim (make_house HP i1 n (s:=s1) 1 kv ks (hk.step u1 fun _ q=>q.elim).v hn6)
 rw [z] at c1 e1 hH1
 rw [c1] at e2 hH2
 refine ⟨s1,s2,fun b=>cond b x2 x1,e1,e2,⟨fun b=>?_,Nat.ne_of_lt (Nat.lt_of_lt_of_le hH1.ik hx2.1),Nat.ne_of_lt (Nat.lt_of_lt_of_le hH1.iw hx2.2.1),Nat.ne_of_lt (Nat.lt_of_lt_of_le hH1.il hx2.2.2.1),Nat.ne_of_lt (Nat.lt_of_lt_of_le hH1.ir hx2.2.2.2)⟩,u1.trans u2,fun k hk=>(m2 k hk).trans (m1 k hk)⟩
 cases b
 ·exact hH1.step u2 fun _ _ q=>q
 ·exact hH2
theorem all_callers (i2:P.inits 2=some (3,10)) (hci:P.fns 10=some f_Caller_init) (n:Nat) (h3:s.cnt 3=0) (h8:s.cnt 8=0) {nc:Nat} (h6:nc≤6) {a b:Option V} :
  ∃ t,ev P (run P (n + 1)) (.comp none 3 true (.loc 2) none (.new 2 [.loc 3])) [a,b,some (.int nc),none] s=.ok (.lst (callersV nc)) t∧CI s nc t:=by
 have hz:nc≤1000:=Nat.le_trans h6 (by decide)
 obtain ⟨vs,t,e,rfl,ci⟩:=okr_elim (okr_compR (P:=P) (C:=run P (n + 1)) (s₀:=s) (slot:=3) (e:=.new 2 [.loc 3]) (l:=[a,b,some (.int nc),none]) (nc:=nc) (fun i=>.ref (3,i)) (CI s) hz (fun j u hj a=>by
  obtain ⟨v,r1,r2,r3,r4,r5,r6,r7⟩:=make_caller i2 hci n a.c3 a.c8
  exact okr_of (bind_eq (a:=[.int j]) (s:=u) rfl r1) ⟨rfl,a.next r2 r3 r4 r5 r6 r7⟩) nc 0 s (Nat.zero_add nc) ⟨h3,h8,fun i hi=>absurd hi (Nat.not_lt_zero i),fun i hi=>absurd hi (Nat.not_lt_zero i),.refl _ _,fun _ _ _=>rfl⟩)
 exact ⟨t,e_comp (src:=.int nc) rfl ((items_range s nc (Int.le_trans (by decide) (Int.natCast_nonneg nc)) (Int.ofNat_le.2 (Nat.le_trans hz (by decide)))).trans (by rw [Int.toNat_natCast,range_range'])) e,ci⟩
noncomputable def world3 (ks:List Key) (nc:Nat):MObj:=.inst 0 [(8,.lst (ks.map .str)),(9,.lst [.ref (2,0),.ref (2,1)]),(10,.lst (callersV nc))]
theorem world_end {C:Calls}{l:Loc}{x:Bool→HIx}{nc:Nat}{Q:Fl×Loc→MS→Prop} (q0:s.heap (1,0)=some (world3 ks nc)) (hh:HH s x (fun b=>HS.new (hn b) ks)) (co:∀ i,i < nc→s.heap (3,i)=some (cObj i c0)) (cl:∀ i,i < nc→s.heap (8,i)=some (.list []))
  (i1:0 < s.cnt 1) (i3:nc≤s.cnt 3) (i8:nc≤s.cnt 8) (c9:s.cnt 9=0) (c10:s.cnt 10=0)
  (k:∀ u,WAt u ks (W0 ks nc) x→Fr (At1 (1,0)) s u→(∀ k,10 < k→u.cnt k=s.cnt k)→Q (.next,some (.ref (1,0)) :: l) u) :
  OkR (exs P C n [.setattr (.loc 0) 11 (.lstM 9 []),.setattr (.loc 0) 12 (.lstM 10 [])] (some (.ref (1,0)) :: l) s) Q:=by
 have g:∀ {a b:MObj}{l:Lbl}{o:MObj},s.heap l=some o→l.1≠1→l.1≠9→l.1≠10→((((s.new 9 (.list [])).put (1,0) a).new 10 (.list [])).put (1,0) b).heap l=some o :=
  fun e h1 h9 h10=>(put_ne fun q=>h1 (congrArg Prod.fst q)).trans ((new_ne fun q=>h10 (congrArg Prod.fst q)).trans ((put_ne fun q=>h1 (congrArg Prod.fst q)).trans ((new_ne fun q=>h9 (congrArg Prod.fst q)).trans e)))
 have f:∀ {a b:MObj},Fr (At1 (1,0)) s ((((s.new 9 (.list [])).put (1,0) a).new 10 (.list [])).put (1,0) b):=((((Fr.refl _ _).new _ _).put (at1 _) _).new _ _).put (at1 _) _
 refine st_setattr rfl rfl (sa_ok 11 _ ((new_ne (kind_ne (by decide))).trans q0) rfl) (st_setattr rfl rfl (sa_ok 12 _ ((new_ne (kind_ne (by decide))).trans (put_self _ _ _)) rfl) (st_nil (k _ ⟨?_,hh.step (f.mono fun l (e:l=(1,0))=>e ▸ of_decide_eq_true (p:=1≠2∧1≠4∧1≠5∧1≠6∧1≠7) rfl),fun i hi=>g (co i hi) (of_decide_eq_true (p:=3≠1) rfl) (of_decide_eq_true (p:=3≠9) rfl) (of_decide_eq_true (p:=3≠10) rfl),fun i hi=>g (cl i hi) (of_decide_eq_true (p:=8≠1) rfl) (of_decide_eq_true (p:=8≠9) rfl) (of_decide_eq_true (p:=8≠10) rfl),?_,?_,i1,i3,i8,Nat.succ_pos _,Nat.succ_pos _⟩ f fun k hk=>(if_neg (Nat.ne_of_gt hk)).trans (if_neg (Nat.ne_of_gt (Nat.lt_of_succ_lt hk))))))
 ·refine (put_self _ _ _).trans ?_
  show some (MObj.inst 0 [(8,.lst (ks.map .str)),(9,.lst [.ref (2,0),.ref (2,1)]),(10,.lst (callersV nc)),(11,.ref (9,s.cnt 9)),(12,.ref (10,s.cnt 10))])=_
  rw [c9,c10]; rfl
 ·refine (put_ne (kind_ne (by decide))).trans ((new_ne (kind_ne (by decide))).trans ((put_ne (kind_ne (by decide))).trans ?_))
  rw [← c9]; exact new_self _ 9 _
 ·refine (put_ne (kind_ne (by decide))).trans ?_
  have e:((s.new 9 (.list [])).put (1,0) (.inst 0 (aput 11 (.ref (9,s.cnt 9)) [(8,.lst (ks.map .str)),(9,.lst [.ref (2,0),.ref (2,1)]),(10,.lst (callersV nc))]))).cnt 10=0:=c10
  rw [← e]; exact new_self _ 10 _
theorem world_tail (HP:HouseP P) (i1:P.inits 1=some (2,20)) (i2:P.inits 2=some (3,10)) (hci:P.fns 10=some f_Caller_init) (n:Nat) {kv:V} (hk:KeysW kv ks s) (hn6:ks.length < 1000) {nc:Nat} (h6:nc≤6)
  (q0:s.heap (1,0)=some (.inst 0 [])) (l1:0 < s.cnt 1) (hc:∀ k,k≠1→k < 11→s.cnt k=0) {Q:Fl×Loc→MS→Prop} (k:∀ u l x,WAt u ks (W0 ks nc) x→Fr (At1 (1,0)) s u→(∀ k,10 < k→u.cnt k=s.cnt k)→Q (.next,l) u) :
  OkR (exs P (run P (n + 1)) (n + 1) worldT [some (.ref (1,0)),some kv,some (.int nc),none] s) Q:=by
 refine st_setattr (hk.list rfl) rfl (sa_ok 8 _ q0 rfl) ?_
 have f1:Fr (At1 (1,0)) s (s.put (1,0) (.inst 0 [(8,.lst (ks.map .str))])):=(Fr.refl _ _).put (at1 _) _
 obtain ⟨s1,s2,x,e1,e2,hh,f2,c2⟩:=two_houses HP i1 n (hk.step f1 fun l (e:l=(1,0))=>e ▸ of_decide_eq_true (p:=1 < 11) rfl) hn6 (hc 2 (by decide) (by decide))
 refine st_setattr (e_lst (vs:=[.ref (2,0),.ref (2,1)]) (e_cons (bind_eq (a:=[.int 0,kv]) rfl e1) (e_cons (bind_eq (a:=[.int 1,kv]) rfl e2) rfl)) rfl) rfl (sa_ok 9 _ ((f2.1 (1,0) l1 fun q=>q).trans (put_self _ _ _)) rfl) ?_
 have hz:∀ k,7 < k∨k=3→k≠1→k < 11→s2.cnt k=0:=fun k h h1 h2=>(c2 k h).trans (hc k h1 h2)
 obtain ⟨t,e3,ci⟩:=all_callers (s:=s2.put (1,0) (.inst 0 [(8,.lst (ks.map .str)),(9,.lst [.ref (2,0),.ref (2,1)])])) i2 hci n (hz 3 (.inr rfl) (by decide) (by decide)) (hz 8 (.inl (by decide)) (by decide) (by decide)) h6 (a:=some (.ref (1,0))) (b:=some kv)
 have l2:0 < s2.cnt 1:=Nat.lt_of_lt_of_le l1 (f2.2 1)
 have l3:0 < t.cnt 1:=Nat.lt_of_lt_of_le l2 (ci.fr.2 1)
 have fN:Fr NH s2 (s2.put (1,0) (.inst 0 [(8,.lst (ks.map .str)),(9,.lst [.ref (2,0),.ref (2,1)])])):=(Fr.refl _ _).put (of_decide_eq_true (p:=1≠2∧1≠4∧1≠5∧1≠6∧1≠7) rfl) _
 have f3:Fr (At1 (1,0)) s t:=((f1.trans (f2.mono fun _ q=>q.elim)).put (at1 _) _).trans (ci.fr.mono fun _ q=>q.elim)
 have hput:∀ {l:Lbl}{o:MObj},t.heap l=some o→l.1≠1→(t.put (1,0) (world3 ks nc)).heap l=some o:=fun e h=>(put_ne fun q=>h (congrArg Prod.fst q)).trans e
 refine st_setattr e3 rfl (sa_ok 10 _ ((ci.fr.1 (1,0) l2 fun q=>q).trans (put_self _ _ _)) rfl) (world_end (x:=x) (put_self _ _ _) ?_ (fun i hi=>hput (ci.co i hi) (of_decide_eq_true (p:=3≠1) rfl)) (fun i hi=>hput (ci.cl i hi) (of_decide_eq_true (p:=8≠1) rfl)) l3 (Nat.le_of_eq ci.c3.symm) (Nat.le_of_eq ci.c8.symm) ((ci.ck 9 (by decide) (by decide)).trans (hz 9 (.inl (by decide)) (by decide) (by decide))) ((ci.ck 10 (by decide) (by decide)).trans (hz 10 (.inl (by decide)) (by decide) (by decide))) fun u A f hu=>k u _ x A ((f3.put (at1 _) _).trans f) fun k hk=>?_)
 ·exact (hh.step fN).step ((ci.fr.mono fun _ q=>q.elim).put (of_decide_eq_true (p:=1≠2∧1≠4∧1≠5∧1≠6∧1≠7) rfl) _)
 ·have h:k≠3∧k≠8∧7 < k:=by omega
  exact (hu k hk).trans ((ci.ck k h.1 h.2.1).trans (c2 k (.inl h.2.2)))
theorem make_with {Q:V→MS→Prop} (i0:P.inits 0=some (1,40)) {n:Nat}{vs:List V} (hc:∀ k,k < 11→s.cnt k=0)
  (h:∀ t,t.heap (1,0)=some (.inst 0 [])→0 < t.cnt 1→(∀ k,k≠1→t.cnt k=s.cnt k)→Fr (fun _=>False) s t→OkR (run P n 40 (.ref (1,0) :: vs) t) fun v u=>v=.none∧Q (.ref (1,0)) u) :
  OkR (makeInst P (run P n) 0 vs s) Q:=by
 have g1:=hc 1 (by decide)
 rw [makeInst,i0]
 show OkR (Res.bind (run P n 40 (.ref (1,s.cnt 1) :: vs) (s.new 1 (.inst 0 []))) _) _
 rw [g1,okr_bind]
 exact okr_mono (h (s.new 1 (.inst 0 [])) (by rw [← g1]; exact new_self _ 1 _) (by rw [cnt_self]; exact Nat.succ_pos _) (fun k hk=>if_neg hk) ((Fr.refl _ _).new _ _)) fun v u q=>by obtain ⟨rfl,q⟩:=q; exact q
include H
omit H
include H
omit H
theorem fmod_nat (k:Int) {N:Nat} (h:0 < N):∃ p:Nat,p < N∧k.fmod (N:Int)=p:=by
 obtain ⟨h1,h2⟩:=fmod_range k (N:Int) (by omega)
 exact ⟨(k.fmod (N:Int)).toNat,by omega,by omega⟩
end
end Mine
end
section
namespace Mine
noncomputable def f_Caller_came:Fn:=⟨3,["self","number","told"],[.ite (.and [.isC true (.attr (.loc 0) 2) .none,.cmp (.sub (.attr (.loc 0) 2) (.int 0)) .eq (.loc 1)]) [.expr (.bm .append (.attr (.loc 0) 3) [.tup [.loc 1,.loc 2]]),.setattr (.loc 0) 2 .none] []]⟩
noncomputable def f_World_home:Fn:=⟨2,["self","key","house"],[.expr (.meth (.loc 0) 15 [.loc 1]),.for_ (.inl (.loc 2)) false (.attr (.loc 0) 9) [.ite (.meth (.loc 2) 0 [.loc 1]) [.ret (some (.attr (.loc 2) 0))] []],.ret (some .none)]⟩
noncomputable def f_World_has:Fn:=⟨3,["self","house","key"],[.expr (.meth (.loc 0) 14 [.loc 1]),.expr (.meth (.loc 0) 15 [.loc 2]),.ret (some (.meth (.sub (.attr (.loc 0) 9) (.loc 1)) 0 [.loc 2]))]⟩
noncomputable def f_World_write:Fn:=⟨2,["self","house","found"],[.expr (.meth (.loc 0) 14 [.loc 1]),.assign 2 (.meth (.sub (.attr (.loc 0) 9) (.loc 1)) 6 []),.expr (.bm .extend (.attr (.loc 0) 11) [.sub (.loc 2) (.int 0)]),.expr (.bm .extend (.attr (.loc 0) 12) [.sub (.loc 2) (.int 1)])]⟩
noncomputable def f_World_nudge:Fn:=⟨2,["self","house"],[.expr (.meth (.loc 0) 14 [.loc 1]),.expr (.bm .extend (.attr (.loc 0) 11) [.meth (.sub (.attr (.loc 0) 9) (.loc 1)) 8 []])]⟩
noncomputable def f_World_owes:Fn:=⟨2,["self","house"],[.expr (.meth (.loc 0) 14 [.loc 1]),.ret (some (.meth (.sub (.attr (.loc 0) 9) (.loc 1)) 1 []))]⟩
noncomputable def CS.came (c:CS) (n told:Int):CS:=match c.op with
 | some p=>if p.1=n then ⟨c.begun,none,c.closed ++ [(n,told)]⟩ else c
 | none=>c
section
variable {P:Prog} (H:WorldP P) {n:Nat}{s:MS}{ks:List Key}{W:WS}{x:Bool→HIx}{i:Nat}
include H
theorem run_whas (HP:HouseP P) (hf:P.fns 54=some f_World_has) (n:Nat) (a:WAt s ks W x) (b:Bool) {key:Key} (hk:key∈ks):run P (n + 3) 54 [.ref (1,0),.int (hn b),.str key] s=.ok (.bool ((W.h b).has key)) s:=by
 refine okr_eq (okr_run hf rfl ?_)
 refine st_expr (e_meth (vs:=[.int (hn b)]) rfl ((meth_of a.o).trans H.m14) rfl (need_house H n b s)) ?_
 refine st_expr (e_meth (vs:=[.str key]) rfl ((meth_of a.o).trans H.m15) rfl (need_key H (n + 1) a hk)) ?_
 exact st_ret (e_meth (vs:=[.str key]) (e_hat a rfl rfl) ((meth_of (a.hh.at_ b).o).trans HP.mhas) rfl (run_has HP (n + 1) (a.hh.at_ b) key)) ⟨rfl,rfl⟩
theorem run_wowes (HP:HouseP P) (ho:P.fns 22=some f_House_owes) (hf:P.fns 61=some f_World_owes) (n:Nat) (a:WAt s ks W x) (b:Bool) (z:HZ (W.h b)) (nd:((W.h b).known.map (·.1)).Nodup) :
  run P (n + 3) 61 [.ref (1,0),.int (hn b)] s=.ok (.ref (14,s.cnt 14)) (s.new 14 (.list ((W.h b).owes.map .str))):=by
 refine okr_eq (okr_run hf rfl ?_)
 refine st_expr (e_meth (vs:=[.int (hn b)]) rfl ((meth_of a.o).trans H.m14) rfl (need_house H n b s)) ?_
 exact st_ret (e_meth (vs:=[]) (e_hat a rfl rfl) ((meth_of (a.hh.at_ b).o).trans HP.mowes) rfl (run_owes HP rfl ho (n + 1) (a.hh.at_ b) z nd)) ⟨rfl,rfl⟩
omit H
include H
end
end Mine
end
section
namespace Mine.L08
open Mine
noncomputable def f_House_init:Fn:=⟨3,["self","number","keys","key"],[.setattr (.loc 0) 0 (.loc 1),.setattr (.loc 0) 4 (.dictM 4 [] []),.for_ (.inl (.loc 3)) false (.loc 2) [.setitem (.attr (.loc 0) 4) (.loc 3) (.tup [.str [104,101,114,101],.int 0,.int 0,.tup []]),.ite (.cmp (.loc 1) .ne (.int 0)) [.setitem (.attr (.loc 0) 4) (.loc 3) (.tup [.str [103,111,110,101],.neg (.int 1),.int 0,.tup []])] []],.setattr (.loc 0) 5 (.dictC 5 (.attr (.loc 0) 4)),.setattr (.loc 0) 6 (.lstM 6 []),.setattr (.loc 0) 7 (.lstM 7 [])]⟩
noncomputable def f_House_called:Fn:=⟨5,["self","caller","number","key","wish","one","mark","pair","marks",""],[.assign 5 (.sub (.attr (.loc 0) 4) (.loc 3)),.for_ (.inl (.loc 6)) false (.sub (.loc 5) (.int 3)) [.ite (.and [.cmp (.sub (.loc 6) (.int 0)) .eq (.loc 1),.cmp (.sub (.loc 6) (.int 1)) .gt (.loc 2)]) [.ret none] [],.ite (.and [.cmp (.sub (.loc 6) (.int 0)) .eq (.loc 1),.cmp (.sub (.loc 6) (.int 1)) .eq (.loc 2)]) [.expr (.bm .append (.attr (.loc 0) 6) [.tup [.str [97,110,115,119,101,114],.loc 1,.loc 2,.sub (.loc 6) (.int 2)]]),.ret none] []],.assign 7 (.call 2 [.sub (.loc 5) (.int 2),.loc 4]),.assign 8 (.bin .add (.comp none 9 false (.sub (.loc 5) (.int 3)) (some (.cmp (.sub (.loc 9) (.int 0)) .ne (.loc 1))) (.loc 9)) (.lst [.tup [.loc 1,.loc 2,.sub (.loc 7) (.int 1)]])),.setitem (.attr (.loc 0) 4) (.loc 3) (.tup [.str [104,101,114,101],.sub (.loc 5) (.int 1),.sub (.loc 7) (.int 0),.prim .tuple1 [.prim .sorted [.loc 8]]]),.expr (.bm .append (.attr (.loc 0) 6) [.tup [.str [97,110,115,119,101,114],.loc 1,.loc 2,.sub (.loc 7) (.int 1)]]),.expr (.bm .append (.attr (.loc 0) 7) [.tup [.loc 1,.loc 2,.loc 3,.loc 4,.sub (.loc 7) (.int 1)]])]⟩
noncomputable def f_is_key:Fn:=⟨1,["thing","sign"],[.ite (.or [.not (.isinst (.loc 0) [.str]),.not (.cmp2 (.int 1) .le (.prim .len [.loc 0]) .le (.gint "LONGEST" 8))]) [.ret (some (.bool false))] [],.for_ (.inl (.loc 1)) false (.loc 0) [.ite (.cmp (.loc 1) .notin (.gstr "LETTERS" [97,98,99,100,101,102,103,104,105,106,107,108,109,110,111,112,113,114,115,116,117,118,119,120,121,122])) [.ret (some (.bool false))] []],.ret (some (.bool true))]⟩
noncomputable def f_need_world:Fn:=⟨2,["keys","callers","k"],[.ite (.or [.not (.isinst (.loc 0) [.list]),.not (.cmp2 (.int 1) .le (.prim .len [.loc 0]) .le (.gint "MOST" 6))]) [.raise 100] [],.for_ (.inl (.loc 2)) true (.prim .len [.loc 0]) [.ite (.or [.not (.call 4 [.sub (.loc 0) (.loc 2)]),.cmp (.sub (.loc 0) (.loc 2)) .isin (.slice (.loc 0) none (some (.loc 2)))]) [.raise 100] []],.ite (.or [.not (.call 0 [.loc 1]),.not (.cmp2 (.int 1) .le (.loc 1) .le (.gint "MOST" 6))]) [.raise 100] []]⟩
noncomputable def f_World_init:Fn:=⟨3,["self","keys","callers",""],[.exprX (.call 5 [.loc 1,.loc 2]),.setattr (.loc 0) 8 (.prim .list1 [.loc 1]),.setattr (.loc 0) 9 (.lst [.new 1 [.int 0,.loc 1],.new 1 [.int 1,.loc 1]]),.setattr (.loc 0) 10 (.comp none 3 true (.loc 2) none (.new 2 [.loc 3])),.setattr (.loc 0) 11 (.lstM 9 []),.setattr (.loc 0) 12 (.lstM 10 [])]⟩
noncomputable def f_World_need_key:Fn:=⟨2,["self","key"],[.ite (.or [.not (.isinst (.loc 1) [.str]),.cmp (.loc 1) .notin (.attr (.loc 0) 8)]) [.raise 136] []]⟩
noncomputable def f_World_home:Fn:=⟨2,["self","key","house"],[.exprX (.meth (.loc 0) 15 [.loc 1]),.for_ (.inl (.loc 2)) false (.attr (.loc 0) 9) [.ite (.meth (.loc 2) 0 [.loc 1]) [.ret (some (.attr (.loc 2) 0))] []],.ret (some .none)]⟩
noncomputable def f_World_is_settled:Fn:=⟨1,["self","caller"],[.for_ (.inl (.loc 1)) false (.attr (.loc 0) 10) [.ite (.isC true (.meth (.loc 1) 11 []) .none) [.ret (some (.bool false))] []],.ret (some (.cmp (.bin .add (.prim .len [.meth (.sub (.attr (.loc 0) 9) (.int 0)) 1 []]) (.prim .len [.meth (.sub (.attr (.loc 0) 9) (.int 1)) 1 []])) .eq (.int 0)))]⟩
noncomputable def f_World_one_round:Fn:=⟨1,["self","house","caller","k"],[.for_ (.inl (.loc 1)) true (.int 2) [.expr (.meth (.loc 0) 6 [.loc 1])],.for_ (.inl (.loc 1)) true (.int 2) [.expr (.meth (.loc 0) 8 [.loc 1])],.for_ (.inl (.loc 2)) false (.attr (.loc 0) 10) [.ite (.isC true (.meth (.loc 2) 11 []) .none) [.expr (.bm .append (.attr (.loc 0) 11) [.meth (.loc 2) 10 [.int 0]]),.expr (.bm .append (.attr (.loc 0) 11) [.meth (.loc 2) 10 [.int 1]])] []],.for_ (.inl (.loc 3)) true (.prim .len [.attr (.loc 0) 11]) [.expr (.meth (.loc 0) 21 [.int 0])]]⟩
noncomputable def f_World_settle:Fn:=⟨1,["self","rounds"],[.assign 1 (.int 0),.while_ (.not (.meth (.loc 0) 26 [])) [.expr (.meth (.loc 0) 27 []),.assign 1 (.bin .add (.loc 1) (.int 1))],.ret (some (.loc 1))]⟩
noncomputable def f_law_whole:Fn:=⟨1,["_law_found"],[.ret (some (.and [.isinst (.loc 0) [.int],.not (.isinst (.loc 0) [.bool])]))]⟩
noncomputable def f_law_kinds:Fn:=⟨1,["_law_e","_law_some"],[.assign 1 (.lst [.isX (.loc 0) 100,.isX (.loc 0) 112,.isX (.loc 0) 124,.isX (.loc 0) 136]),.assign 1 (.bin .add (.loc 1) (.lst [.isX (.loc 0) 148,.isX (.loc 0) 160,.isX (.loc 0) 172,.isX (.loc 0) 184])),.ret (some (.bm .count (.bin .add (.loc 1) (.lst [.isX (.loc 0) 196])) [.bool true]))]⟩
noncomputable def f_law_refused:Fn:=⟨2,["_law_keys","_law_callers","_law_e"],[.tryX (.new 0 [.loc 0,.loc 1]) 87 (some 2) [.ret (some (.and [.isX (.loc 2) 100,.isX (.loc 2) 0,.cmp (.call 122 [.loc 2]) .eq (.int 1)]))],.ret (some (.bool false))]⟩
noncomputable def f_law_names:Fn:=⟨1,["_law_cell","_law_letters","_law_size","_law_at","_law_turn","_law_rest","",""],[.assign 1 (.str [97,98,99,100,101,102,103,104,105,106,107,108,109,110,111,112,113,114,115,116,117,118,119,120,121,122]),.assign 2 (.bin .mod (.bin .fdiv (.loc 0) (.int 9)) (.int 9)),.assign 3 (.bin .mod (.bin .fdiv (.loc 0) (.int 81)) (.bin .add (.loc 2) (.int 1))),.assign 4 (.bin .fdiv (.loc 0) (.int 729)),.assign 5 (.bm .join (.str []) [.comp none 6 true (.loc 2) none (.sub (.loc 1) (.bin .mod (.bin .add (.bin .fdiv (.loc 4) (.int 26)) (.bin .mul (.int 5) (.loc 6))) (.int 26)))]),.ret (some (.comp (some 48) 7 true (.bin .mod (.loc 0) (.int 9)) none (.bin .add (.bin .add (.slice (.loc 5) none (some (.loc 3))) (.sub (.loc 1) (.bin .mod (.bin .add (.loc 4) (.loc 7)) (.int 26)))) (.slice (.loc 5) (some (.loc 3)) none))))]⟩
noncomputable def f_law_odd:Fn:=⟨2,["_law_cell","_law_keys","_law_some","_law_sign","_law_odd_here"],[.assign 2 (.str [32,33,34,35,36,38,39,40,41,42,43,44,45,46,47,48,49,50,51,52,53,54,55,56,57,58,59,60,61,62,63,64,65,66,67,68,69,70,71,72,73,74,75,76,77,78,79,80,81,82,83,84,85,86,87,88,89,90,91,92,93,94,95,96,123,124,125,126,10,9]),.assign 3 (.sub (.loc 2) (.bin .mod (.bin .fdiv (.loc 0) (.int 12)) (.prim .len [.loc 2]))),.assign 4 (.sub (.lst [.str [],.none,.int 5,.lst [.str [97]],.tup [.str [97]],.str [97,98,99,100,101,102,103,104,105],.loc 3,.bin .add (.str [97]) (.loc 3),.bin .add (.loc 3) (.str [98,99]),.bin .add (.str [97,98]) (.loc 3),.bool true,.dictM 60 [] []]) (.bin .mod (.loc 0) (.int 12))),.ite (.and [.cmp (.bin .mod (.bin .fdiv (.loc 0) (.int 1009)) (.int 3)) .eq (.int 1),.cmp (.prim .len [.loc 1]) .gt (.int 0)]) [.assign 4 (.sub (.loc 1) (.bin .mod (.bin .fdiv (.loc 0) (.int 3027)) (.prim .len [.loc 1])))] [],.ret (some (.loc 4))]⟩
noncomputable def f_law_good:Fn:=⟨2,["_law_keys","_law_callers","_law_k",""],[.ite (.or [.not (.isinst (.loc 0) [.list]),.not (.cmp2 (.int 1) .le (.prim .len [.loc 0]) .le (.int 6))]) [.ret (some (.bool false))] [],.for_ (.inl (.loc 2)) true (.prim .len [.loc 0]) [.ite (.or [.not (.isinst (.sub (.loc 0) (.loc 2)) [.str]),.not (.cmp2 (.int 1) .le (.prim .len [.sub (.loc 0) (.loc 2)]) .le (.int 8)),.cmp (.sub (.loc 0) (.loc 2)) .isin (.slice (.loc 0) none (some (.loc 2)))]) [.ret (some (.bool false))] [],.ite (.cmp (.comp none 3 false (.sub (.loc 0) (.loc 2)) (some (.cmp (.loc 3) .notin (.str [97,98,99,100,101,102,103,104,105,106,107,108,109,110,111,112,113,114,115,116,117,118,119,120,121,122]))) (.loc 3)) .ne (.lst [])) [.ret (some (.bool false))] []],.ret (some (.and [.call 121 [.loc 1],.cmp2 (.int 1) .le (.loc 1) .le (.int 6)]))]⟩
noncomputable def f_law_fresh:Fn:=⟨3,["_law_world","_law_keys","_law_callers","_law_key","_law_caller","_law_rounds"],[.ite (.or [.cmp (.meth (.loc 0) 19 []) .ne (.lst []),.cmp (.meth (.loc 0) 25 []) .ne (.lst []),.cmp (.meth (.loc 0) 1 [.int 0]) .ne (.lst []),.cmp (.meth (.loc 0) 1 [.int 1]) .ne (.lst [])]) [.ret (some (.bool false))] [],.for_ (.inl (.loc 3)) false (.loc 1) [.ite (.or [.not (.call 121 [.meth (.loc 0) 24 [.loc 3]]),.cmp (.meth (.loc 0) 24 [.loc 3]) .ne (.int 0)]) [.ret (some (.bool false))] [],.ite (.or [.isC true (.meth (.loc 0) 0 [.int 0,.loc 3]) (.bool true),.isC true (.meth (.loc 0) 0 [.int 1,.loc 3]) (.bool false)]) [.ret (some (.bool false))] []],.for_ (.inl (.loc 4)) true (.loc 2) [.ite (.or [.isC true (.meth (.loc 0) 11 [.loc 4]) .none,.cmp (.meth (.loc 0) 12 [.loc 4]) .ne (.lst [])]) [.ret (some (.bool false))] []],.assign 5 (.meth (.loc 0) 28 []),.ret (some (.and [.call 121 [.loc 5],.cmp (.loc 5) .eq (.int 0),.cmp (.meth (.loc 0) 19 []) .eq (.lst [])]))]⟩
noncomputable def f_law_no_key:Fn:=⟨2,["_law_world","_law_key"],[.tryX (.meth (.loc 0) 24 [.loc 1]) 136 none [.ret (some (.bool true))],.ret (some (.bool false))]⟩
noncomputable def f_law:Fn:=⟨1,["_law_script","_law_keys","_law_way","_law_cell","_law_callers","_law_far","_law_handed","_law_world"],[.assign 1 (.call 124 [.call 100 [.loc 0,.int 0]]),.assign 2 (.bin .mod (.call 100 [.loc 0,.int 1]) (.int 8)),.assign 3 (.call 100 [.loc 0,.int 2]),.ite (.cmp (.loc 2) .lt (.int 3)) [.expr (.bm .insert (.loc 1) [.bin .mod (.bin .fdiv (.call 100 [.loc 0,.int 1]) (.int 8)) (.bin .add (.prim .len [.loc 1]) (.int 1)),.call 125 [.loc 3,.loc 1]])] [],.assign 4 (.bin .add (.int 1) (.bin .mod (.call 100 [.loc 0,.int 3]) (.int 6))),.ite (.cmp (.bin .mod (.bin .fdiv (.call 100 [.loc 0,.int 3]) (.int 6)) (.int 3)) .eq (.int 1)) [.assign 5 (.bin .add (.bin .pow (.int 10) (.int 20)) (.bin .mod (.loc 3) (.bin .pow (.int 10) (.int 20)))),.assign 4 (.sub (.lst [.neg (.int 2),.neg (.int 1),.int 0,.int 7,.int 8,.int 9,.bool true,.bool false,.none,.str [51],.loc 5,.neg (.loc 5),.lst [.int 1]]) (.bin .mod (.bin .fdiv (.call 100 [.loc 0,.int 3]) (.int 18)) (.int 13)))] [],.assign 6 (.loc 1),.ite (.cmp (.loc 2) .eq (.int 3)) [.assign 6 (.sub (.lst [.prim .tuple1 [.loc 1],.none,.str [97,98,99],.dictM 60 [] [],.int 5]) (.bin .mod (.loc 3) (.int 5)))] [],.ite (.not (.call 126 [.loc 6,.loc 4])) [.ret (some (.call 123 [.loc 6,.loc 4]))] [],.assign 6 (.listM 39 (.loc 1)),.assign 7 (.new 0 [.loc 6,.loc 4]),.ite (.cmp (.loc 6) .ne (.loc 1)) [.ret (some (.bool false))] [],.expr (.bm .append (.loc 6) [.str [76,97,116,101,114]]),.ret (some (.and [.call 128 [.loc 7,.str [76,97,116,101,114]],.call 127 [.loc 7,.loc 1,.loc 4]]))]⟩
noncomputable def fnl:List (Nat×Fn):=[(0,Mine.f_is_whole),(1,(Mine.f_need_wish 148)),(2,Mine.f_done),(4,f_is_key),(5,f_need_world),(10,Mine.f_Caller_init),(11,Mine.f_Caller_begin),(12,Mine.f_Caller_letter),(13,Mine.f_Caller_came),(14,Mine.f_Caller_asking),(15,Mine.f_Caller_answers),(20,f_House_init),(21,Mine.f_House_has),(22,Mine.f_House_owes),(23,Mine.f_House_came),(24,f_House_called),(25,Mine.f_House_parcel),(27,Mine.f_House_write),(29,Mine.f_House_nudge),(40,f_World_init),(41,(Mine.f_World_need_caller 112)),(42,(Mine.f_World_need_house 124)),(43,f_World_need_key),(44,(Mine.f_World_need_place 196)),(45,(Mine.f_World_call 160)),(47,Mine.f_World_letters),(48,Mine.f_World_brought),(49,Mine.f_World_hand),(50,Mine.f_World_twice),(52,f_World_home),(54,Mine.f_World_has),(55,Mine.f_World_write),(57,Mine.f_World_nudge),(58,Mine.f_World_ledger),(59,Mine.f_World_asking),(60,Mine.f_World_answers),(61,Mine.f_World_owes),(62,f_World_is_settled),(63,f_World_one_round),(64,f_World_settle),(100,Mine.f_cell),(118,f_law),(121,f_law_whole),(122,f_law_kinds),(123,f_law_refused),(124,f_law_names),(125,f_law_odd),(126,f_law_good),(127,f_law_fresh),(128,f_law_no_key)]
noncomputable def mel:List ((Nat×Nat)×Nat):=[((2,9),11),((2,10),12),((2,2),13),((2,11),14),((2,12),15),((1,0),21),((1,1),22),((1,2),23),((1,3),24),((1,4),25),((1,6),27),((1,8),29),((0,13),41),((0,14),42),((0,15),43),((0,16),44),((0,17),45),((0,19),47),((0,20),48),((0,21),49),((0,22),50),((0,24),52),((0,0),54),((0,6),55),((0,8),57),((0,25),58),((0,11),59),((0,12),60),((0,1),61),((0,26),62),((0,27),63),((0,28),64)]
noncomputable def inl:List (Nat×(Nat×Nat)):=[(2,3,10),(1,2,20),(0,1,40)]
noncomputable def fnn:List (Nat×PySem.Str):=[(0,"is_whole"),(1,"need_wish"),(2,"done"),(4,"is_key"),(5,"need_world"),(100,"_law_cell_at"),(118,"law"),(121,"_law_whole"),(122,"_law_kinds"),(123,"_law_refused"),(124,"_law_names"),(125,"_law_odd"),(126,"_law_good"),(127,"_law_fresh"),(128,"_law_no_key")]
noncomputable def xbl:List (Nat×List Nat):=[(87,[87,0]),(100,[100,87,0]),(112,[112,87,0]),(124,[124,87,0]),(136,[136,87,0]),(148,[148,87,0]),(160,[160,87,0]),(172,[172,87,0]),(184,[184,87,0]),(196,[196,87,0])]
noncomputable def xsl:List (PySem.Str×Nat):=[("MoveError",87),("BadWorld",100),("NoCaller",112),("NoHouse",124),("NoKey",136),("BadWish",148),("Busy",160),("Idle",172),("NotHere",184),("NoLetter",196)]
noncomputable abbrev x_BadWorld:Nat:=100
noncomputable abbrev x_NoKey:Nat:=136
noncomputable def xfl:List Nat:=[40,45,52,41,42,43,44,1,5]
noncomputable def xml:List Nat:=[15,24,1000]
noncomputable def qfl:List Nat:=[122]
noncomputable def prog:Prog:=⟨fun f=>fnl.lookup f,fun c m=>mel.lookup (c,m),fun c=>inl.lookup c,fun c=>(xbl.lookup c).getD []⟩
end Mine.L08
end
section
namespace Mine.L08
open Mine
theorem hHP:HouseP prog:=⟨rfl,rfl,rfl,rfl,rfl,rfl,rfl,rfl,rfl,rfl,rfl⟩
theorem wp:WorldP prog:=⟨rfl,⟨_,rfl⟩,⟨_,rfl⟩,⟨_,rfl⟩,⟨_,rfl⟩,rfl,rfl,rfl,rfl,rfl,rfl,rfl,rfl,rfl,rfl,rfl⟩
theorem p_cell:prog.fns 100=some f_cell:=rfl
section
variable {s:MS}
noncomputable def nameAt (x:List Nat) (a:Nat) (t:Int) (k:Nat):Key:=x.take a ++ [letter (t + k)] ++ x.drop a
noncomputable def namesAt (m z a t:Int):List Key:=(List.range m.toNat).map fun k=>nameAt (restOf z.toNat t) a.toNat t k
noncomputable def namesOf (c:Int):List Key:=namesAt (c.fmod 9) ((c.fdiv 9).fmod 9) ((c.fdiv 81).fmod ((c.fdiv 9).fmod 9 + 1)) (c.fdiv 729)
theorem small1 (x:List Nat) (a:Nat) (h:x.length≤8):(x.take a).length + 1≤16777216:=by rw [List.length_take]; omega
theorem small2 (x:List Nat) (a c:Nat) (h:x.length≤8):(x.take a ++ [c]).length + (x.drop a).length≤16777216:=by rw [List.length_append,List.length_take,List.length_drop]; show min _ _ + 1 + _≤_; omega
theorem ran_len {z:Int} (h:z < 9):(0:Nat) + ((List.range z.toNat).map fun (i:Nat)=>V.int i).length≤sizeMax:=by rw [List.length_map,List.length_range]; show _≤16777216; omega
noncomputable def fRest (t:Int):V→V
 | .int i=>.str [letter (t.fdiv 26 + 5 * i)]
 | v=>v
noncomputable def fName (x:List Nat) (a:Nat) (t:Int):V→V
 | .int i=>.str (x.take a ++ [letter (t + i)] ++ x.drop a)
 | v=>v
theorem run_names (n:Nat) (c:Int) (s:MS):run prog (n + 1) 124 [.int c] s=.ok (.ref (48,s.cnt 48)) (s.new 48 (.list ((namesOf c).map .str))):=by
 obtain ⟨hm0,hm1⟩:=fmod_range c 9 (by decide)
 obtain ⟨hz0,hz1⟩:=fmod_range (c.fdiv 9) 9 (by decide)
 refine okr_eq (okr_run (fn:=f_law_names) rfl rfl ?_)
 refine st_assign (v:=.str abc) rfl rfl (st_assign (v:=.int ((c.fdiv 9).fmod 9)) rfl rfl ?_)
 unfold namesOf
 generalize (c.fdiv 9).fmod 9=z at hz0 hz1
 have hz2:¬ (z + 1=0):=by omega
 refine st_assign (v:=.int ((c.fdiv 81).fmod (z + 1))) (if_neg hz2) rfl (st_assign (v:=.int (c.fdiv 729)) rfl rfl ?_)
 obtain ⟨ha0,-⟩:=fmod_range (c.fdiv 81) (z + 1) (by omega)
 generalize (c.fdiv 81).fmod (z + 1)=a at ha0
 generalize c.fdiv 729=t
 have hxl:(restOf z.toNat t).length≤8:=by rw [rest_len]; omega
 refine st_assign (v:=.str (restOf z.toNat t)) (s':=s) (e_bm (x:=.str []) (vs:=[.lst (((List.range z.toNat).map fun (i:Nat)=>V.int i).map (fRest t))]) (s2:=s) rfl rfl (e_cons (e_comp rfl (items_range s z hz0 (by omega)) (comp_map s s true (.int z) 6 _ _ (fRest t) rfl _ [] (fun x hx=>?_) (ran_len hz1))) rfl) (join_ok s ?_ (Nat.le_trans hxl (by decide)))) rfl ?_
 ·obtain ⟨i,-,rfl⟩:=List.mem_map.1 hx
  exact e_sub (s1:=s) (s2:=s) rfl (e_bin (x:=.int (t.fdiv 26 + 5 * i)) (s1:=s) (s2:=s) (e_bin (x:=.int (t.fdiv 26)) (s1:=s) rfl (b_mulL 5 i s (by decide) (by decide)) rfl) rfl rfl) (abc_at (t.fdiv 26 + 5 * i) s)
 ·rw [List.map_map]
  exact cat_one (fun (k:Nat)=>letter (t.fdiv 26 + 5 * k)) (List.range z.toNat)
 have e:((List.range (c.fmod 9).toNat).map fun (i:Nat)=>V.int i).map (fName (restOf z.toNat t) a.toNat t)=(namesAt (c.fmod 9) z a t).map V.str:=by rw [namesAt,List.map_map,List.map_map]; rfl
 rw [← e]
 generalize restOf z.toNat t=x at hxl
 refine st_ret (e_compM rfl (items_range s (c.fmod 9) hm0 (by omega)) (comp_map s s true (.int (c.fmod 9)) 7 _ _ (fName x a.toNat t) rfl _ [] (fun y hy=>?_) (ran_len hm1))) ⟨rfl,rfl⟩
 obtain ⟨i,-,rfl⟩:=List.mem_map.1 hy
 exact e_bin (s1:=s) (s2:=s) (x:=.str (x.take a.toNat ++ [letter (t + i)])) (e_bin (s1:=s) (s2:=s) (sl_str x a s ha0 (Nat.le_trans hxl (by decide))) (e_sub (s1:=s) (s2:=s) rfl rfl (abc_at (t + i) s)) (b_str _ _ s (small1 x a.toNat hxl))) (sl_str2 x a s ha0 (Nat.le_trans hxl (by decide))) (b_str _ _ s (small2 x a.toNat (letter (t + i)) hxl))
set_option genCtorIdx false in
structure Nice (x:Key):Prop where
 l:x.length≤100
 a:∀ c∈x,c < 128
theorem names_nice (c:Int):(namesOf c).length≤8∧∀ k∈namesOf c,Nice k:=by
 obtain ⟨hm0,hm1⟩:=fmod_range c 9 (by decide)
 obtain ⟨hz0,hz1⟩:=fmod_range (c.fdiv 9) 9 (by decide)
 unfold namesOf namesAt
 refine ⟨by rw [List.length_map,List.length_range]; omega,fun k hk=>?_⟩
 obtain ⟨i,-,rfl⟩:=List.mem_map.1 hk
 have hl:(restOf ((c.fdiv 9).fmod 9).toNat (c.fdiv 729)).length≤8:=by rw [rest_len]; omega
 have hr:=rest_abc ((c.fdiv 9).fmod 9).toNat (c.fdiv 729)
 generalize restOf ((c.fdiv 9).fmod 9).toNat (c.fdiv 729)=x at hl hr
 refine ⟨?_,fun ch hc=>?_⟩
 ·rw [nameAt,List.length_append,List.length_append,List.length_take,List.length_drop]; show min _ _ + 1 + _≤_; omega
 ·have:97≤ch∧ch≤122:=by
   rcases List.mem_append.1 hc with hc | hc
   ·rcases List.mem_append.1 hc with hc | hc
    ·exact hr _ (List.mem_of_mem_take hc)
    ·rw [List.mem_singleton.1 hc]; exact letter_abc _
   ·exact hr _ (List.mem_of_mem_drop hc)
  omega
noncomputable def Item (s:MS) (v:V):Prop:=(∃ x,v=.str x∧Nice x)∨∃ g,g≠Tag.str∧((∀ s,tagOf s v=some g)∨∃ j,v=.ref (60,j)∧s.heap (60,j)=some (.dict [])∧g=.dict)
theorem Item.tag {v:V} (h:Item s v):(∃ x,v=.str x∧Nice x)∨∃ g,g≠Tag.str∧tagOf s v=some g:=by
 rcases h with h | ⟨g,h,h1 | ⟨j,rfl,h1,rfl⟩⟩
 ·exact .inl h
 ·exact .inr ⟨g,h,h1 s⟩
 ·refine .inr ⟨_,h,?_⟩
  show (match s.heap (60,j) with | some (.list _)=>some Tag.list | some (.dict _)=>some Tag.dict | _=>none)=_
  rw [h1]
theorem tag_str {g:Tag} (h:g≠.str):kindHas g .str=some false:=by cases g <;> first | rfl | exact absurd rfl h
theorem e_rngB {P:Prog}{C:Calls}{l:Loc}{a b c:E}{x y z:Int} (ha:ev P C a l s=.ok (.int x) s) (hb:ev P C b l s=.ok (.int y) s) (hc:ev P C c l s=.ok (.int z) s):ev P C (.cmp2 a .le b .le c) l s=.ok (.bool (decide (x≤y) && decide (y≤z))) s:=by
 rw [ev_cmp2,ha]
 show Res.bind (ev P C b l s) _=_
 rw [hb]
 show (if decide (x≤y)=true then (ev P C c l s).bind fun z s=>cmpOp .le (.int y) z s else .ok (.bool false) s)=_
 rw [hc]
 cases decide (x≤y) <;> rfl
theorem abc_iff (c:Nat):c∈abc ↔ 97≤c∧c≤122:=⟨fun h=>by
 have:=List.all_eq_true.1 (show abc.all (fun c=>decide (97≤c) && decide (c≤122))=true from rfl) c h
 obtain ⟨h1,h2⟩:=Bool.and_eq_true_iff.1 this
 exact ⟨of_decide_eq_true h1,of_decide_eq_true h2⟩,abc_mem⟩
theorem key_iff {x:Key} (h1:1≤x.length) (h8:x.length≤8):KeyFine x ↔ ∀ c∈x,c∈abc:=⟨fun h c hc=>abc_mem (h.abc c hc),fun h=>⟨h1,h8,fun c hc=>(abc_iff c).1 (h c hc)⟩⟩
theorem len_str {C:Calls}{l:Loc}{e:E}{x:Key} (h:x.length≤100) (he:ev prog C e l s=.ok (.str x) s):ev prog C (.prim .len [e]) l s=.ok (.int x.length) s:=e_prim (e_cons he rfl) (if_pos (Nat.le_trans h (by decide)))
theorem asc_all {x:Key} (h:Nice x):x.all (fun c=>decide (c < 128))=true:=List.all_eq_true.2 fun c hc=>decide_eq_true (h.a c hc)
theorem run_key (n:Nat) {v:V} (h:Item s v):OkR (run prog (n + 1) 4 [v] s) fun r t=>t=s∧∃ b,r=.bool b∧(b=true ↔ ∃ x,v=.str x∧KeyFine x):=by
 refine okr_run (fn:=f_is_key) rfl rfl ?_
 rcases h.tag with ⟨x,rfl,hx⟩ | ⟨g,hg,ht⟩
 ·by_cases hl:1≤x.length∧x.length≤8
  ·refine st_if (t:=false) (e_orF rfl (e_or1 (e_not (t:=true) (e_rngL (x:=1) (y:=x.length) (z:=8) rfl (len_str hx.l rfl) rfl (Int.ofNat_le.2 hl.1) (Int.ofNat_le.2 hl.2))))) (st_next ?_)
   refine st_for (v:=.str x) rfl (if_pos (asc_all hx)) rfl (okr_forM (fun c=>V.str [c]) (fun a=>[some (.str x),a]) (fun r _ t=>t=s∧(KeyFine x ↔ ∀ c∈r,c∈abc)) (fun c r y t q=>⟨rfl,?_⟩) (fun y t q=>⟨rfl,?_⟩) x none s ⟨rfl,key_iff hl.1 hl.2⟩)
   ·obtain ⟨rfl,q⟩:=q
    show OkR (exs prog _ _ _ [some (.str x),some (.str [c])] t) _
    by_cases hc:c∈abc
    ·exact st_if (t:=false) (congrArg (fun q=>Res.ok (V.bool (!q)) t) (decide_eq_true hc)) (st_next (st_nil ⟨_,rfl,rfl,q.trans ⟨fun h d hd=>h d (List.mem_cons_of_mem _ hd),fun h d hd=>(List.mem_cons.1 hd).elim (fun e=>e ▸ hc) (h d)⟩⟩))
    ·exact st_if (t:=true) (congrArg (fun q=>Res.ok (V.bool (!q)) t) (decide_eq_false hc)) (st_ret (v:=.bool false) rfl ⟨rfl,false,rfl,fun q=>(nomatch q),fun ⟨y,e,k⟩=>by cases e; exact absurd (q.1 k c (List.mem_cons_self ..)) hc⟩)
   ·obtain ⟨rfl,q⟩:=q
    rw [seqQ_next]
    exact st_ret (v:=.bool true) rfl ⟨rfl,true,rfl,fun _=>⟨x,rfl,q.2 fun c hc=>nomatch hc⟩,fun _=>rfl⟩
  ·have e:(decide ((1:Int)≤(x.length:Nat)) && decide (((x.length:Nat):Int)≤8))=false:=by
    cases h:(decide ((1:Int)≤(x.length:Nat)) && decide (((x.length:Nat):Int)≤8)) with
    | false=>rfl
    | true =>
     have h:=Bool.and_eq_true_iff.1 h
     exact absurd ⟨Int.ofNat_le.1 (of_decide_eq_true h.1),Int.ofNat_le.1 (of_decide_eq_true h.2)⟩ hl
   refine st_if (t:=true) (e_orF rfl (e_or1 (e_not (t:=false) ((e_rngB (x:=1) (y:=x.length) (z:=8) rfl (len_str hx.l rfl) rfl).trans (by rw [e]))))) (st_ret (v:=.bool false) rfl ⟨rfl,false,rfl,fun q=>(nomatch q),fun ⟨y,e,k⟩=>by cases e; exact absurd ⟨k.pos,k.eig⟩ hl⟩)
 ·refine st_if (t:=true) (e_orT (e_not (t:=false) (e_isinst rfl (kind1 ht (tag_str hg))))) (st_ret (v:=.bool false) rfl ⟨rfl,false,rfl,fun q=>(nomatch q),fun ⟨y,e,k⟩=>?_⟩)
  subst e; cases ht; exact absurd rfl hg
theorem vin_dec {key:Key} (s:MS):∀ ks:List Key,vin s (.str key) (ks.map .str)=some (decide (key∈ks))
 | []=>rfl
 | k :: ks=>by
  show (match some (decide (k=key)),vin s (.str key) (ks.map .str) with | some p,some q=>some (p || q) | _,_=>none)=_
  rw [vin_dec s ks]
  show some (decide (k=key) || decide (key∈ks))=_
  by_cases e:k=key
  ·rw [decide_eq_true e,decide_eq_true (show key∈k :: ks from e ▸ List.mem_cons_self ..)]; rfl
  ·rw [decide_eq_false e]
   show some (decide (key∈ks))=_
   by_cases h:key∈ks
   ·rw [decide_eq_true h,decide_eq_true (List.mem_cons_of_mem _ h)]
   ·rw [decide_eq_false h,decide_eq_false fun q=>(List.mem_cons.1 q).elim (fun z=>e z.symm) h]
noncomputable def GoodK (xs:List V):Prop:=∃ ks:List Key,xs=ks.map .str∧KeysFine ks
noncomputable def GoodC (cv:V):Prop:=∃ nc:Nat,cv=.int nc∧1≤nc∧nc≤6
theorem str_inj:∀ {a b:List Key},a.map V.str=b.map V.str→a=b
 | [],[],_=>rfl
 | x :: a,y :: b,h=>by
  obtain ⟨h1,h2⟩:=List.cons.inj h
  rw [str_inj h2]; cases h1; rfl
theorem bad_key {xs rk:List V}{dk:List Key}{v:V} (e:xs=dk.map .str ++ v :: rk) (h:¬ ∃ x,v=.str x∧KeyFine x):¬ GoodK xs:=fun ⟨ks,e',K⟩=>by
 have:v∈ks.map V.str:=by rw [← e',e]; exact List.mem_append_right _ (List.mem_cons_self ..)
 obtain ⟨x,hx,rfl⟩:=memb_map this
 exact h ⟨x,rfl,K.all x hx⟩
theorem bad_twice {xs rk:List V}{dk:List Key}{key:Key} (e:xs=dk.map .str ++ .str key :: rk) (h:key∈dk):¬ GoodK xs:=fun ⟨ks,e',K⟩=>by
 obtain ⟨l1,l2,rfl,h1,h2⟩:=List.map_eq_append_iff.1 (e'.symm.trans e)
 cases str_inj h1
 cases l2 with
 | nil=>cases h2
 | cons k l2 =>
  cases h2
  exact (List.nodup_append.1 K.nd).2.2 key h key (List.mem_cons_self ..) rfl
set_option genCtorIdx false in
structure Seen (xs:List V) (dk:List Key) (rk:List V):Prop where
 e:xs=dk.map .str ++ rk
 f:∀ k∈dk,KeyFine k
 nd:dk.Nodup
theorem Seen.next {xs rk:List V}{dk:List Key}{key:Key} (a:Seen xs dk (.str key :: rk)) (hf:KeyFine key) (hn:key ∉ dk):Seen xs (dk ++ [key]) rk where
 e:=by rw [a.e,List.map_append,List.append_assoc]; rfl
 f k hk:=(List.mem_append.1 hk).elim (a.f k) fun h=>by rw [List.mem_singleton.1 h]; exact hf
 nd:=List.nodup_append.2 ⟨a.nd,List.nodup_cons.2 ⟨List.not_mem_nil,List.nodup_nil⟩,fun x hx y hy e=>by rw [List.mem_singleton.1 hy] at e; exact hn (e ▸ hx)⟩
theorem Seen.end_ {xs:List V}{dk:List Key} (a:Seen xs dk []) (h1:1≤xs.length) (h6:xs.length≤6):GoodK xs:=by
 have e:=a.e
 rw [List.append_nil] at e
 rw [e,List.length_map] at h1 h6
 exact ⟨dk,e,h1,h6,a.nd,a.f⟩
theorem Seen.get {xs rk:List V}{dk:List Key}{v:V} (a:Seen xs dk (v :: rk)) {K:V} (hK:seqOf s K=some (true,xs)):getItem K (.int dk.length) s=.ok v s∧getSlice K none (some (.int dk.length)) s=.ok (.lst (dk.map .str)) s:=by
 have hl:dk.length < xs.length:=by rw [a.e,List.length_append,List.length_map]; exact Nat.lt_add_of_pos_right (Nat.succ_pos _)
 refine ⟨(i_seq hK _ hl).trans ?_,?_⟩
 ·have:xs[dk.length]?=some v:=by rw [a.e,List.getElem?_append_right (by rw [List.length_map]; exact Nat.le_refl _),List.length_map,Nat.sub_self]; rfl
  rw [List.getElem?_eq_getElem hl] at this
  rw [Option.some.inj this]
 ·have e:xs.take dk.length=dk.map .str:=by rw [a.e,List.take_append_of_le_length (by rw [List.length_map]; exact Nat.le_refl _),List.take_of_length_le (by rw [List.length_map]; exact Nat.le_refl _)]
  cases K with
  | lst l =>
   cases hK
   rw [sl_take,e]
  | ref r =>
   show (match seqOf s (.ref r) with
    | some (true,l)=>(match cutAt 0 none,cutAt l.length (some (.int dk.length)) with
     | some i,some j=>Res.ok (V.lst ((l.take j).drop i)) s
     | _,_=>.stuck)
    | some (false,l)=>(match cutAt 0 none,cutAt l.length (some (.int dk.length)) with
     | some i,some j=>if ((l.take j).drop i).length < l.length then .ok (.tup ((l.take j).drop i)) s else .stuck
     | _,_=>.stuck)
    | none=>.stuck)=_
   rw [hK]
   show (match some 0,(if (0:Int)≤dk.length then some (dk.length:Int).toNat else none) with | some i,some j=>Res.ok (V.lst ((xs.take j).drop i)) s | _,_=>.stuck)=_
   rw [if_pos (Int.natCast_nonneg _)]
   show Res.ok (V.lst (xs.take dk.length)) s=_
   rw [e]
  | _=>cases hK
theorem rng_iff {x y z:Int}:(decide (x≤y) && decide (y≤z))=true ↔ x≤y∧y≤z:=⟨fun h=>⟨of_decide_eq_true (Bool.and_eq_true_iff.1 h).1,of_decide_eq_true (Bool.and_eq_true_iff.1 h).2⟩,fun h=>Bool.and_eq_true_iff.2 ⟨decide_eq_true h.1,decide_eq_true h.2⟩⟩
theorem nw_turn (n:Nat) {K cv v:V}{xs rk:List V}{dk:List Key} (hK:seqOf s K=some (true,xs)) (a:Seen xs dk (v :: rk)) (hv:Item s v) {Q:Fl×Loc→MS→Prop}{X:Nat→MS→Prop} (kx:¬ GoodK xs→X x_BadWorld s) (kn:∀ key,v=.str key→KeyFine key→key ∉ dk→Q (.next,[some K,some cv,some (.int dk.length)]) s) :
  Out (exs prog (run prog (n + 1)) (n + 1) [.ite (.or [.not (.call 4 [.sub (.loc 0) (.loc 2)]),.cmp (.sub (.loc 0) (.loc 2)) .isin (.slice (.loc 0) none (some (.loc 2)))]) [.raise x_BadWorld] []] [some K,some cv,some (.int dk.length)] s) Q X:=by
 obtain ⟨g1,g2⟩:=a.get hK
 obtain ⟨r,t,e1,rfl,b,rfl,hb⟩:=okr_elim (run_key n hv)
 have e2:=e_not (e_call (P:=prog) (f:=4) (es:=[.sub (.loc 0) (.loc 2)]) (l:=[some K,some cv,some (.int dk.length)]) (e_cons (e_sub (a:=.loc 0) (b:=.loc 2) rfl rfl g1) rfl) e1)
 cases b with
 | false=>exact xt_if (t:=true) (e_orT e2) (xt_raise (kx (bad_key a.e fun h=>nomatch hb.2 h)))
 | true =>
  obtain ⟨key,rfl,hf⟩:=hb.1 rfl
  have e3:ev prog (run prog (n + 1)) (.cmp (.sub (.loc 0) (.loc 2)) .isin (.slice (.loc 0) none (some (.loc 2)))) [some K,some cv,some (.int dk.length)] t=.ok (.bool (decide (key∈dk))) t:=e_cmp (e_sub rfl rfl g1) (e_slice rfl rfl rfl g2) (by show okB t (vin t (.str key) (dk.map .str))=_; rw [vin_dec]; rfl)
  by_cases hin:key∈dk
  ·rw [decide_eq_true hin] at e3; exact xt_if (t:=true) (e_orF e2 (e_or1 e3)) (xt_raise (kx (bad_twice a.e hin)))
  ·rw [decide_eq_false hin] at e3; exact xt_if (t:=false) (e_orF e2 (e_or1 e3)) (xt_nil (xt_nil (kn key rfl hf hin)))
noncomputable def CV (cv:V):Prop:=(∃ i,cv=.int i)∨(∃ b,cv=.bool b)∨cv=.none∨(∃ x,cv=.str x)∨∃ l,cv=.lst l
theorem run_wh (n:Nat) {cv:V} (h:CV cv) (s:MS):∃ b,run prog (n + 1) 0 [cv] s=.ok (.bool b) s∧run prog (n + 1) 121 [cv] s=.ok (.bool b) s∧(b=true ↔ ∃ i,cv=.int i):=by
 rcases h with ⟨i,rfl⟩ | ⟨i,rfl⟩ | rfl | ⟨i,rfl⟩ | ⟨i,rfl⟩
 ·exact ⟨true,okr_eq (okr_run wp.whole rfl (st_ret rfl ⟨rfl,rfl⟩)),okr_eq (okr_run (fn:=f_law_whole) rfl rfl (st_ret rfl ⟨rfl,rfl⟩)),fun _=>⟨i,rfl⟩,fun _=>rfl⟩
 ·exact ⟨false,okr_eq (okr_run wp.whole rfl (st_ret rfl ⟨rfl,rfl⟩)),okr_eq (okr_run (fn:=f_law_whole) rfl rfl (st_ret rfl ⟨rfl,rfl⟩)),fun q=>(nomatch q),fun ⟨_,e⟩=>nomatch e⟩
 ·exact ⟨false,okr_eq (okr_run wp.whole rfl (st_ret rfl ⟨rfl,rfl⟩)),okr_eq (okr_run (fn:=f_law_whole) rfl rfl (st_ret rfl ⟨rfl,rfl⟩)),fun q=>(nomatch q),fun ⟨_,e⟩=>nomatch e⟩
 ·exact ⟨false,okr_eq (okr_run wp.whole rfl (st_ret rfl ⟨rfl,rfl⟩)),okr_eq (okr_run (fn:=f_law_whole) rfl rfl (st_ret rfl ⟨rfl,rfl⟩)),fun q=>(nomatch q),fun ⟨_,e⟩=>nomatch e⟩
 ·exact ⟨false,okr_eq (okr_run wp.whole rfl (st_ret rfl ⟨rfl,rfl⟩)),okr_eq (okr_run (fn:=f_law_whole) rfl rfl (st_ret rfl ⟨rfl,rfl⟩)),fun q=>(nomatch q),fun ⟨_,e⟩=>nomatch e⟩
theorem goodC_int {i:Int}:GoodC (.int i) ↔ (1:Int)≤i∧i≤6:=⟨fun ⟨nc,e,h1,h6⟩=>by cases e; exact ⟨Int.ofNat_le.2 h1,Int.ofNat_le.2 h6⟩,fun h=>⟨i.toNat,by rw [Int.toNat_of_nonneg (Int.le_trans (by decide) h.1)],by omega,by omega⟩⟩
theorem goodK_len {xs:List V} (h:GoodK xs):1≤xs.length∧xs.length≤6:=by
 obtain ⟨ks,rfl,K⟩:=h
 rw [List.length_map]; exact ⟨K.pos,K.six⟩
set_option genCtorIdx false in
structure Hd (s:MS) (K:V) (xs:List V):Prop where
 k:seqOf s K=some (true,xs)
 it:∀ v∈xs,Item s v
 l:xs.length≤100
noncomputable def SeenI (xs:List V) (s:MS) (r:List Nat) (_:Option V) (t:MS):Prop:=t=s∧∃ dk rk,Seen xs dk rk∧r=List.range' dk.length rk.length
theorem SeenI.cons {xs:List V}{i:Nat}{r:List Nat}{y:Option V}{t:MS}{M:Prop} (h:SeenI xs s (i :: r) y t) (k:∀ dk v rk,t=s→i=dk.length→Seen xs dk (v :: rk)→(∀ key,v=.str key→KeyFine key→key ∉ dk→∀ y,SeenI xs s r y s)→M):M:=by
 obtain ⟨rfl,dk,rk,a,e⟩:=h
 cases rk with
 | nil=>cases e
 | cons v rk =>
  have e:i :: r=dk.length :: List.range' (dk.length + 1) rk.length:=e
  obtain ⟨rfl,rfl⟩:=List.cons.inj e
  exact k dk v rk rfl rfl a fun key e hf hn y=>⟨rfl,dk ++ [key],rk,(e ▸ a).next hf hn,by rw [List.length_append]; rfl⟩
theorem SeenI.nil {xs:List V}{y:Option V}{t:MS} (h:SeenI xs s [] y t) (h1:1≤xs.length∧xs.length≤6):t=s∧GoodK xs:=by
 obtain ⟨rfl,dk,rk,a,e⟩:=h
 cases rk with
 | nil=>exact ⟨rfl,a.end_ h1.1 h1.2⟩
 | cons v rk=>cases e
theorem seenI0 (xs:List V) (s:MS) (y:Option V):SeenI xs s (List.range xs.length) y s:=⟨rfl,[],xs,⟨rfl,fun _ h=>(nomatch h),List.nodup_nil⟩,List.range_eq_range'⟩
theorem Seen.here {xs rk:List V}{dk:List Key}{v:V} (a:Seen xs dk (v :: rk)):v∈xs:=by rw [a.e]; exact List.mem_append_right _ (List.mem_cons_self ..)
theorem nat_rng {m a b:Nat}:((a:Int)≤(m:Nat)∧((m:Nat):Int)≤(b:Nat)) ↔ a≤m∧m≤b:=⟨fun h=>⟨Int.ofNat_le.1 h.1,Int.ofNat_le.1 h.2⟩,fun h=>⟨Int.ofNat_le.2 h.1,Int.ofNat_le.2 h.2⟩⟩
theorem Hd.len {C:Calls}{K:V}{xs:List V}{l:Loc}{e:E} (h:Hd s K xs) (he:ev prog C e l s=.ok K s):ev prog C (.prim .len [e]) l s=.ok (.int (xs.length:Nat)) s:=e_prim (e_cons he rfl) (len_seq h.k)
theorem Hd.first {C:Calls}{K:V}{xs:List V}{l:Loc}{six:E} (h:Hd s K xs) (h0:ev prog C (.loc 0) l s=.ok K s) (h6:ev prog C six l s=.ok (.int 6) s) :
  ∃ b,ev prog C (.or [.not (.isinst (.loc 0) [.list]),.not (.cmp2 (.int 1) .le (.prim .len [.loc 0]) .le six)]) l s=.ok (.bool b) s∧(b=false ↔ 1≤xs.length∧xs.length≤6):=by
 refine ⟨_,e_orF (e_not (t:=true) (e_isinst h0 (kind1 (tag_seq h.k) rfl))) (e_or1 (e_not (e_rngB (x:=1) (y:=(xs.length:Nat)) (z:=6) rfl (h.len h0) h6))),?_⟩
 rw [Bool.not_eq_false',rng_iff]
 exact nat_rng (a:=1) (b:=6)
theorem Hd.items {K:V}{xs:List V} (h:Hd s K xs):itemsOf s true (.int (xs.length:Nat))=some ((List.range xs.length).map fun (i:Nat)=>.int i) :=
 (items_range s _ (Int.natCast_nonneg _) (Int.ofNat_le.2 (Nat.le_trans h.l (by decide)))).trans (by rw [Int.toNat_natCast])
theorem last_look (n:Nat) {C:Calls}{cv:V}{l:Loc} (hc:CV cv) (h1:ev prog (run prog (n + 1)) (.loc 1) l s=.ok cv s):∃ b,ev prog (run prog (n + 1)) (.or [.not (.call 0 [.loc 1]),.not (.cmp2 (.int 1) .le (.loc 1) .le (.gint "MOST" 6))]) l s=.ok (.bool b) s∧(b=false ↔ GoodC cv):=by
 obtain ⟨b,e1,-,hb⟩:=run_wh n hc s
 have e2:=e_not (e_call (f:=0) (es:=[.loc 1]) (e_cons h1 rfl) e1)
 cases b with
 | false=>exact ⟨true,e_orT e2,fun q=>(nomatch q),fun ⟨nc,e,_⟩=>nomatch hb.2 ⟨_,e⟩⟩
 | true =>
  obtain ⟨i,rfl⟩:=hb.1 rfl
  refine ⟨_,e_orF e2 (e_or1 (e_not (e_rngB (x:=1) (y:=i) (z:=6) rfl h1 rfl))),?_⟩
  rw [Bool.not_eq_false',rng_iff]
  exact goodC_int.symm
theorem run_nw (n:Nat) {K cv:V}{xs:List V} (h:Hd s K xs) (hc:CV cv):Out (run prog (n + 2) 5 [K,cv] s) (fun v t=>v=.none∧t=s∧GoodK xs∧GoodC cv) (fun c t=>c=x_BadWorld∧t=s∧¬ (GoodK xs∧GoodC cv)):=by
 refine out_run (fn:=f_need_world) rfl rfl ?_
 obtain ⟨b,e1,hb⟩:=h.first (C:=run prog (n + 1)) (l:=[some K,some cv,none]) (six:=.gint "MOST" 6) rfl rfl
 cases b with
 | true=>exact xt_if (t:=true) e1 (xt_raise ⟨rfl,rfl,fun q=>nomatch hb.2 (goodK_len q.1)⟩)
 | false =>
  have hl:=hb.1 rfl
  refine xt_if (t:=false) e1 (xt_nil (xt_for (h.len rfl) h.items rfl (out_forM (fun (i:Nat)=>V.int i) (fun y=>[some K,some cv,y]) (SeenI xs s) (fun i r y t q=>⟨rfl,q.cons fun dk v rk et ei a kk=>?_⟩) (fun y t q=>⟨rfl,?_⟩) _ none s (seenI0 xs s none))))
  ·subst et; subst ei
   exact nw_turn n h.k a (h.it v a.here) (fun hg=>⟨rfl,rfl,fun q=>hg q.1⟩) fun key e hf hn=>⟨_,rfl,kk key e hf hn _⟩
  ·obtain ⟨rfl,hg⟩:=q.nil hl
   obtain ⟨b,e2,hb⟩:=last_look n (C:=run prog n) (l:=[some K,some cv,y]) hc rfl
   cases b with
   | true=>exact xt_if (t:=true) e2 (xt_raise ⟨rfl,rfl,fun q=>nomatch hb.2 q.2⟩)
   | false=>exact xt_if (t:=false) e2 (xt_nil (xt_nil ⟨rfl,rfl,hg,hb.1 rfl⟩))
theorem tag_list {g:Tag} (h:g≠.list):kindHas g .list=some false:=by cases g <;> first | rfl | exact absurd rfl h
theorem run_nw0 (n:Nat) {K cv:V}{g:Tag} (h:tagOf s K=some g) (hg:g≠.list):Out (run prog (n + 2) 5 [K,cv] s) (fun _ _=>False) (fun c t=>c=x_BadWorld∧t=s) :=
 out_run (fn:=f_need_world) rfl rfl (xt_if (t:=true) (e_orT (e_not (t:=false) (e_isinst rfl (kind1 h (tag_list hg))))) (xt_raise ⟨rfl,rfl⟩))
theorem run_good0 (n:Nat) {K cv:V}{g:Tag} (h:tagOf s K=some g) (hg:g≠.list):run prog (n + 1) 126 [K,cv] s=.ok (.bool false) s :=
 okr_eq (okr_run (fn:=f_law_good) rfl rfl (st_if (t:=true) (e_orT (e_not (t:=false) (e_isinst rfl (kind1 h (tag_list hg))))) (st_ret rfl ⟨rfl,rfl⟩)))
noncomputable def odd1 (v:V):Bool:=match v with
 | .str [c]=>!decide (c∈abc)
 | _=>false
theorem signs (n:Nat) {K cv:V}{y:Option V}{x:Key} (hx:Nice x) (g:ev prog (run prog n) (.sub (.loc 0) (.loc 2)) [some K,some cv,y,none] s=.ok (.str x) s) :
  ∃ b,ev prog (run prog n) (.cmp (.comp none 3 false (.sub (.loc 0) (.loc 2)) (some (.cmp (.loc 3) .notin (.str [97,98,99,100,101,102,103,104,105,106,107,108,109,110,111,112,113,114,115,116,117,118,119,120,121,122]))) (.loc 3)) .ne (.lst [])) [some K,some cv,y,none] s=.ok (.bool b) s∧(b=false ↔ ∀ c∈x,c∈abc):=by
 refine ⟨!((x.map fun c=>V.str [c]).filter odd1).isEmpty,e_cmp (e_comp g (if_pos (asc_all hx)) ((comp_fm s s false (.str x) 3 _ _ _ odd1 id rfl (x.map fun c=>V.str [c]) [] (fun v hv=>?_) (fun v hv _=>rfl) ?_).trans (by rw [List.nil_append,List.map_id]))) rfl ?_,?_⟩
 ·obtain ⟨c,-,rfl⟩:=memb_map hv
  rfl
 ·rw [List.length_map]; show 0 + x.length≤16777216; rw [Nat.zero_add]; exact Nat.le_trans hx.l (by decide)
 ·cases (x.map fun c=>V.str [c]).filter odd1 <;> rfl
 ·rw [Bool.not_eq_false',List.isEmpty_iff,List.filter_eq_nil_iff]
  refine ⟨fun h c hc=>?_,fun h v hv=>?_⟩
  ·have:¬ (!decide (c∈abc))=true:=h (.str [c]) (List.mem_map.2 ⟨c,hc,rfl⟩)
   by_cases hin:c∈abc
   ·exact hin
   ·rw [decide_eq_false hin] at this; exact absurd rfl this
  ·obtain ⟨c,hc,rfl⟩:=memb_map hv
   show ¬ (!decide (c∈abc))=true
   rw [decide_eq_true (h c hc)]; exact Bool.false_ne_true
theorem good_turn (n:Nat) {K cv v:V}{xs rk:List V}{dk:List Key} (hK:seqOf s K=some (true,xs)) (a:Seen xs dk (v :: rk)) (hv:Item s v) {Q:Fl×Loc→MS→Prop} (kx:¬ GoodK xs→Q (.ret (.bool false),[some K,some cv,some (.int dk.length),none]) s) (kn:∀ key,v=.str key→KeyFine key→key ∉ dk→Q (.next,[some K,some cv,some (.int dk.length),none]) s) :
  OkR (exs prog (run prog (n + 1)) (n + 1) [.ite (.or [.not (.isinst (.sub (.loc 0) (.loc 2)) [.str]),.not (.cmp2 (.int 1) .le (.prim .len [.sub (.loc 0) (.loc 2)]) .le (.int 8)),.cmp (.sub (.loc 0) (.loc 2)) .isin (.slice (.loc 0) none (some (.loc 2)))]) [.ret (some (.bool false))] [],.ite (.cmp (.comp none 3 false (.sub (.loc 0) (.loc 2)) (some (.cmp (.loc 3) .notin (.str [97,98,99,100,101,102,103,104,105,106,107,108,109,110,111,112,113,114,115,116,117,118,119,120,121,122]))) (.loc 3)) .ne (.lst [])) [.ret (some (.bool false))] []] [some K,some cv,some (.int dk.length),none] s) Q:=by
 obtain ⟨g1,g2⟩:=a.get hK
 have es:ev prog (run prog (n + 1)) (.sub (.loc 0) (.loc 2)) [some K,some cv,some (.int dk.length),none] s=.ok v s:=e_sub rfl rfl g1
 rcases hv.tag with ⟨x,rfl,hx⟩ | ⟨g,hg,ht⟩
 ·have e1:ev prog (run prog (n + 1)) (.not (.isinst (.sub (.loc 0) (.loc 2)) [.str])) [some K,some cv,some (.int dk.length),none] s=.ok (.bool false) s:=e_not (t:=true) (e_isinst es rfl)
  have e2:=e_not (e_rngB (a:=.int 1) (c:=.int 8) (x:=1) (y:=x.length) (z:=8) rfl (len_str hx.l es) rfl)
  cases hb:(decide ((1:Int)≤(x.length:Nat)) && decide (((x.length:Nat):Int)≤8)) with
  | false =>
   rw [hb] at e2
   refine st_if (t:=true) (e_orF e1 (e_orT e2)) (st_ret rfl (kx (bad_key a.e fun ⟨y,e,k⟩=>?_)))
   cases e
   exact nomatch hb.symm.trans (rng_iff.2 (nat_rng (a:=1) (b:=8) |>.2 ⟨k.pos,k.eig⟩))
  | true =>
   rw [hb] at e2
   have hl:=(nat_rng (a:=1) (b:=8)).1 (rng_iff.1 hb)
   have e3:ev prog (run prog (n + 1)) (.cmp (.sub (.loc 0) (.loc 2)) .isin (.slice (.loc 0) none (some (.loc 2)))) [some K,some cv,some (.int dk.length),none] s=.ok (.bool (decide (x∈dk))) s:=e_cmp es (e_slice rfl rfl rfl g2) (by show okB s (vin s (.str x) (dk.map .str))=_; rw [vin_dec]; rfl)
   by_cases hin:x∈dk
   ·rw [decide_eq_true hin] at e3
    exact st_if (t:=true) (e_orF e1 (e_orF e2 (e_or1 e3))) (st_ret rfl (kx (bad_twice a.e hin)))
   ·rw [decide_eq_false hin] at e3
    obtain ⟨b,e4,hb⟩:=signs (n + 1) hx es
    refine st_if (t:=false) (e_orF e1 (e_orF e2 (e_or1 e3))) (st_next ?_)
    cases b with
    | true=>exact st_if (t:=true) e4 (st_ret rfl (kx (bad_key a.e fun ⟨y,e,k⟩=>by cases e; exact nomatch hb.2 ((key_iff hl.1 hl.2).1 k))))
    | false=>exact st_if (t:=false) e4 (st_next (st_nil (kn x rfl ((key_iff hl.1 hl.2).2 (hb.1 rfl)) hin)))
 ·refine st_if (t:=true) (e_orT (e_not (t:=false) (e_isinst es (kind1 ht (tag_str hg))))) (st_ret rfl (kx (bad_key a.e fun ⟨y,e,k⟩=>?_)))
  subst e; cases ht; exact absurd rfl hg
theorem run_good (n:Nat) {K cv:V}{xs:List V} (h:Hd s K xs) (hc:CV cv):OkR (run prog (n + 2) 126 [K,cv] s) fun r t=>t=s∧∃ b,r=.bool b∧(b=true ↔ GoodK xs∧GoodC cv):=by
 refine okr_run (fn:=f_law_good) rfl rfl ?_
 obtain ⟨b,e1,hb⟩:=h.first (C:=run prog (n + 1)) (l:=[some K,some cv,none,none]) (six:=.int 6) rfl rfl
 cases b with
 | true=>exact st_if (t:=true) e1 (st_ret (v:=.bool false) rfl ⟨rfl,false,rfl,fun q=>(nomatch q),fun q=>nomatch hb.2 (goodK_len q.1)⟩)
 | false =>
  have hl:=hb.1 rfl
  refine st_if (t:=false) e1 (st_next (st_for (h.len rfl) h.items rfl (okr_forM (fun (i:Nat)=>V.int i) (fun y=>[some K,some cv,y,none]) (SeenI xs s) (fun i r y t q=>⟨rfl,q.cons fun dk v rk et ei a kk=>?_⟩) (fun y t q=>⟨rfl,?_⟩) _ none s (seenI0 xs s none))))
  ·subst et; subst ei
   exact good_turn n h.k a (h.it v a.here) (fun hg=>⟨rfl,false,rfl,fun q=>(nomatch q),fun q=>(hg q.1).elim⟩) fun key e hf hn=>⟨_,rfl,kk key e hf hn _⟩
  ·obtain ⟨rfl,hg⟩:=q.nil hl
   rw [seqQ_next]
   obtain ⟨b,-,e2,hb⟩:=run_wh n hc t
   have e3:=e_call (P:=prog) (f:=121) (es:=[.loc 1]) (l:=[some K,some cv,y,none]) (vs:=[cv]) rfl e2
   cases b with
   | false=>exact st_ret (e_andF e3) ⟨rfl,false,rfl,fun q=>(nomatch q),fun ⟨_,nc,e,_⟩=>nomatch hb.2 ⟨_,e⟩⟩
   | true =>
    obtain ⟨i,rfl⟩:=hb.1 rfl
    exact st_ret (e_andT e3 (e_and1 (e_rngB (x:=1) (y:=i) (z:=6) rfl rfl rfl))) ⟨rfl,_,rfl,fun q=>⟨hg,goodC_int.2 (rng_iff.1 q)⟩,fun q=>rng_iff.2 (goodC_int.1 q.2)⟩
noncomputable def Bad (n:Nat) (K cv:V) (s:MS):Prop:=Out (run prog (n + 2) 5 [K,cv] s) (fun _ _=>False) (fun c t=>c=x_BadWorld∧t=s)
theorem cnt_b:∀ bs:List Bool,(bs.map V.bool).countP (fun x=>decide (x=V.bool true))=bs.countP id
 | []=>rfl
 | b :: bs=>by
  rw [List.map_cons,List.countP_cons,List.countP_cons,cnt_b bs]
  cases b with
  | true=>rw [decide_eq_true rfl]; rfl
  | false=>rw [decide_eq_false nofun]; rfl
theorem run_kinds (n:Nat) (s:MS):run prog (n + 1) 122 [.exc x_BadWorld] s=.ok (.int 1) s:=by
 refine okr_eq (okr_run (fn:=f_law_kinds) rfl rfl (st_assign (v:=.lst [.bool true,.bool false,.bool false,.bool false]) rfl rfl (st_assign (v:=.lst ([true,false,false,false,false,false,false,false].map V.bool)) rfl rfl (st_ret (v:=.int 1) (e_bm (x:=.lst ([true,false,false,false,false,false,false,false,false].map V.bool)) (vs:=[.bool true]) rfl rfl rfl ?_) ⟨rfl,rfl⟩))))
 show Res.ok (V.int ((([true,false,false,false,false,false,false,false,false].map V.bool).countP fun x=>decide (x=V.bool true):Nat))) s=_
 rw [cnt_b]; rfl
theorem run_refused (n:Nat) {K cv:V} (h:Bad n K cv (s.new 1 (.inst 0 []))):OkR (run prog (n + 4) 123 [K,cv] s) fun v _=>v=.bool true:=by
 have o:Out (run prog (n + 3) 40 [.ref (1,s.cnt 1),K,cv] (s.new 1 (.inst 0 []))) (fun _ _=>False) (fun c u=>c=x_BadWorld∧u=s.new 1 (.inst 0 [])) :=
  out_run (fn:=f_World_init) rfl rfl (xt_exprX (q_call (vs:=[K,cv]) rfl (out_mono h (fun _ _ q=>q.elim) fun _ _ q=>q)))
 rcases out_elim o with ⟨_,_,_,q⟩ | ⟨c,u,e,rfl,rfl⟩
 ·exact q.elim
 ·refine okr_run (fn:=f_law_refused) rfl rfl (st_tryX (c':=x_BadWorld) (s3:=s.new 1 (.inst 0 [])) (l2:=[some K,some cv,some (.exc x_BadWorld)]) (v:=.bool true) ?_ rfl (okr_eq (st_ret (e_andT rfl (e_andT rfl (e_and1 (e_cmp (e_call (vs:=[.exc x_BadWorld]) rfl (run_kinds (n + 2) _)) rfl rfl)))) ⟨rfl,rfl⟩)) rfl)
  show Res.bind (run prog (n + 3) 40 [.ref (1,s.cnt 1),K,cv] (s.new 1 (.inst 0 []))) _=_
  rw [e]; rfl
theorem kget_map {key:Key} (r:Row):∀ {ks:List Key},key∈ks→kget key (ks.map fun k=>(k,r))=some r
 | k :: ks,h=>by
  rw [List.map_cons,kget]
  by_cases e:k=key
  ·rw [if_pos e]
  ·rw [if_neg e]; exact kget_map r ((List.mem_cons.1 h).resolve_left fun q=>e q.symm)
theorem new_has {ks:List Key} (nd:ks.Nodup) {key:Key} (hk:key∈ks) (b:Bool):(HS.new (hn b) ks).has key=!b:=by
 rw [HS.has,new_known _ nd,kget_map _ hk]
 cases b
 ·exact decide_eq_true rfl
 ·exact decide_eq_false nofun
theorem new_owes {ks:List Key} (nd:ks.Nodup) (b:Bool):(HS.new (hn b) ks).owes=[]:=by
 rw [HS.owes,new_known _ nd,List.filter_eq_nil_iff.2 fun p hp=>?_]
 ·rfl
 ·obtain ⟨k,-,rfl⟩:=List.mem_map.1 hp
  cases b <;> exact of_decide_eq_true rfl
section
variable {ks:List Key}{nc:Nat}{x:Bool→HIx}
noncomputable def No:Lbl→Prop:=fun _=>False
theorem nof {t:MS} (f:Fr No s t):Fr NW s t:=f.mono fun _ q=>q.elim
theorem st_exprXok {C:Calls}{n:Nat}{e:E}{l:Loc}{r:List S}{v:V}{s':MS}{Q:Fl×Loc→MS→Prop} (h:evQ prog C e l s=.ok v s') (k:OkR (exs prog C n r l s') Q):OkR (exs prog C n (.exprX e :: r) l s) Q:=by
 rw [exs_cons,okr_bind,ex_exprX,h]; exact k
theorem q_methOk {C:Calls}{l:Loc}{a:E}{k f:Nat}{es:List E}{y v:V}{vs:List V}{s1 s2 s':MS} (h1:ev prog C a l s=.ok y s1) (h0:methOf prog y k s1=some f) (h2:evL prog C es l s1=.ok vs s2) (h3:C f (y :: vs) s2=.ok v s'):evQ prog C (.meth a k es) l s=.ok v s':=by
 rw [evQ_meth,h1]
 show (match methOf prog y k s1 with | some f=>_ | none=>_)=_
 rw [h0]
 show Res.bnd (evL prog C es l s1) _=_
 rw [h2]; exact h3
theorem e_isB {C:Calls}{l:Loc}{a:E}{g b t:Bool}{v:V}{s1:MS} (h1:ev prog C a l s=.ok v s1) (h2:decide (v=.bool b)=t):ev prog C (.isC g a (.bool b)) l s=.ok (.bool (t != g)) s1:=by
 rw [ev_isC,h1,← h2]; rfl
theorem key_bad (n:Nat) {W:WS} (A:WAt s ks W x) {key:Key} (hk:key ∉ ks):Out (run prog (n + 1) 43 [.ref (1,0),.str key] s) (fun _ _=>False) (fun c t=>c=x_NoKey∧t=s) :=
 out_run (fn:=f_World_need_key) rfl rfl (xt_if (t:=true) (e_orF rfl (e_or1 (e_cmp rfl (e_attr rfl (ga_ok A.o rfl)) (by show okB s ((vin s (.str key) (ks.map .str)).map (!·))=_; rw [vin_dec,decide_eq_false hk]; rfl)))) (xt_raise ⟨rfl,rfl⟩))
theorem run_nokey (n:Nat) {W:WS} (A:WAt s ks W x) {key:Key} (hk:key ∉ ks):run prog (n + 3) 128 [.ref (1,0),.str key] s=.ok (.bool true) s:=by
 have o:Out (evQ prog (run prog (n + 2)) (.meth (.loc 0) 24 [.loc 1]) [some (.ref (1,0)),some (.str key)] s) (fun _ _=>False) (fun c t=>c=x_NoKey∧t=s) :=
  q_methX (x:=.ref (1,0)) (vs:=[.str key]) rfl (meth_of A.o) rfl (out_run (fn:=f_World_home) rfl rfl (xt_exprX (q_methX (x:=.ref (1,0)) (vs:=[.str key]) rfl (meth_of A.o) rfl (out_mono (key_bad n A hk) (fun _ _ q=>q.elim) fun _ _ q=>q))))
 rcases out_elim o with ⟨_,_,_,q⟩ | ⟨c,u,e,rfl,rfl⟩
 ·exact q.elim
 ·exact okr_eq (okr_run (fn:=f_law_no_key) rfl rfl (st_tryX e rfl (okr_eq (st_ret rfl ⟨rfl,rfl⟩)) ⟨rfl,rfl⟩))
theorem eq_nil (s:MS) (r:Lbl) (l:List V) (hr:s.heap r=some (.list l)):cmpOp .eq (.ref r) (.lst []) s=.ok (.bool l.isEmpty) s:=by
 show okB s (veq s 12 (.ref r) (.lst []))=_
 rw [veq_nil s 11 r l hr]; rfl
variable (A:WAt s ks (W0 ks nc) x) (K:KeysFine ks)
include A K
theorem home_ok (n:Nat) {key:Key} (hk:key∈ks):run prog (n + 3) 52 [.ref (1,0),.str key] s=.ok (.int 0) s:=by
 refine okr_eq (okr_run (fn:=f_World_home) rfl rfl (st_exprXok (q_methOk (vs:=[.str key]) rfl (meth_of A.o) rfl (need_key wp (n + 1) A hk)) ?_))
 have hh:=run_has hHP (n + 1) (A.hh.at_ false) key
 rw [show ((W0 ks nc).h false).has key=true from new_has K.nd hk false] at hh
 refine st_for (v:=.lst [.ref (2,0),.ref (2,1)]) (e_attr rfl (ga_ok A.o rfl)) rfl rfl (okr_forM (fun (b:Bool)=>V.ref (2,hx b)) (fun y=>[some (.ref (1,0)),some (.str key),y]) (fun r _ t=>t=s∧r=[false,true]) (fun b r y t q=>⟨rfl,?_⟩) (fun y t q=>nomatch q.2) [false,true] none s ⟨rfl,rfl⟩)
 obtain ⟨rfl,e⟩:=q
 obtain ⟨rfl,rfl⟩:=List.cons.inj e
 exact st_if (t:=true) (e_meth (x:=.ref (2,hx false)) (vs:=[.str key]) rfl (meth_of (A.hh.at_ false).o) rfl hh) (st_ret (v:=.int 0) (e_attr rfl (ga_ok (A.hh.at_ false).o rfl)) ⟨rfl,rfl⟩)
theorem hz0 (b:Bool):HZ ((W0 ks nc).h b):=(HInv.new (hn b) K.nd).z (by decide) K.six
theorem nd0 (b:Bool):(((W0 ks nc).h b).known.map (·.1)).Nodup:=by rw [show ((W0 ks nc).h b).known.map (·.1)=ks from (HInv.new (hn b) K.nd).hk]; exact K.nd
theorem set_ok (n:Nat):OkR (run prog (n + 3) 62 [.ref (1,0)] s) fun v t=>v=.bool true∧Fr No s t:=by
 refine okr_run (fn:=f_World_is_settled) rfl rfl (st_for (v:=.lst (callersV nc)) (e_attr rfl (ga_ok A.o rfl)) rfl rfl (okr_each (fun (i:Nat)=>V.ref (3,i)) (fun y=>[some (.ref (1,0)),y]) (s=·) (xs:=List.range nc) (y:=none) rfl (fun _ _=>rfl) (fun i hi y t e=>?_) fun y t e=>?_))
 ·subst e
  have hi:=List.mem_range.1 hi
  exact st_if (t:=false) (e_isN (g:=true) (t:=true) (e_meth (x:=.ref (3,i)) (vs:=[]) rfl (meth_of (A.co i hi)) rfl (run_casking wp (n + 1) A hi)) (decide_eq_true rfl)) (st_next (st_nil ⟨rfl,⟨_,rfl⟩,rfl⟩))
 ·subst e
  rw [seqQ_next]
  have e0:=run_owes hHP rfl rfl (n + 1) (A.hh.at_ false) (hz0 A K false) (nd0 A K false)
  rw [show ((W0 ks nc).h false).owes=[] from new_owes K.nd false] at e0
  have f0:Fr No s (s.new 14 (.list ([].map V.str))):=(Fr.refl _ _).new _ _
  have A0:=A.step (nof f0)
  have e1:=run_owes hHP rfl rfl (n + 1) (A0.hh.at_ true) (hz0 A K true) (nd0 A K true)
  rw [show ((W0 ks nc).h true).owes=[] from new_owes K.nd true] at e1
  exact st_ret (v:=.bool true) (e_cmp (x:=.int 0) (y:=.int 0) (e_bin (x:=.int 0) (y:=.int 0) (e_prim (e_cons (e_meth (x:=.ref (2,hx false)) (vs:=[]) (e_sub (e_attr rfl (ga_ok A.o rfl)) rfl rfl) (meth_of (A.hh.at_ false).o) rfl e0) rfl) (len_seq (seq_ref (new_self _ _ _)))) (e_prim (e_cons (e_meth (x:=.ref (2,hx true)) (vs:=[]) (e_sub (e_attr rfl (ga_ok A0.o rfl)) rfl rfl) (meth_of (A0.hh.at_ true).o) rfl e1) rfl) (len_seq (seq_ref (new_self _ _ _)))) rfl) rfl rfl) ⟨rfl,f0.new _ _⟩
theorem settle_ok (n:Nat):OkR (run prog (n + 4) 64 [.ref (1,0)] s) fun v t=>v=.int 0∧Fr No s t:=by
 refine okr_run (fn:=f_World_settle) rfl rfl (st_assign (v:=.int 0) rfl rfl ?_)
 rw [okr_cons,ex_while]
 refine okr_while (fun _ l t=>t=s∧l=[some (.ref (1,0)),some (.int 0)]) (fun k l t q=>?_) (n + 3) 0 _ _ (Nat.succ_pos _) ⟨rfl,rfl⟩
 obtain ⟨rfl,rfl⟩:=q
 obtain ⟨v,u,e,rfl,f⟩:=okr_elim (set_ok A K n)
 refine okr_of (e_not (t:=true) (e_meth (x:=.ref (1,0)) (vs:=[]) rfl (meth_of A.o) rfl e)) ⟨false,rfl,?_⟩
 rw [if_neg Bool.false_ne_true,seqQ_next]
 exact st_ret rfl ⟨rfl,f⟩
noncomputable abbrev locF (r:Lbl) (nc:Nat) (a b:Option V):Loc:=[some (.ref (1,0)),some (.ref r),some (.int nc),a,b,none]
omit A K in
theorem ite_no8 {C:Calls}{n:Nat}{c:E}{l:Loc}{r:List S}{Q:Fl×Loc→MS→Prop}{t:MS} (h:ev prog C c l s=.ok (.bool false) t) (k:OkR (exs prog C n r l t) Q):OkR (exs prog C n (.ite c [.ret (some (.bool false))] [] :: r) l s) Q:=st_if (t:=false) h (st_next k)
theorem fresh1 (n:Nat) {l:Loc}:∃ t,ev prog (run prog (n + 3)) (.or [.cmp (.meth (.loc 0) 19 []) .ne (.lst []),.cmp (.meth (.loc 0) 25 []) .ne (.lst []),.cmp (.meth (.loc 0) 1 [.int 0]) .ne (.lst []),.cmp (.meth (.loc 0) 1 [.int 1]) .ne (.lst [])]) (some (.ref (1,0)) :: l) s=.ok (.bool false) t∧Fr No s t:=by
 have f1:Fr No s (s.new 11 (.list ((W0 ks nc).post.map letV))):=(Fr.refl _ _).new _ _
 have f2:=f1.new 12 (.list ((W0 ks nc).rows.map lrowV))
 have f3:=f2.new 14 (.list [])
 have o0:=run_wowes wp hHP rfl rfl n (A.step (nof f2)) false (hz0 A K false) (nd0 A K false)
 rw [show ((W0 ks nc).h false).owes=[] from new_owes K.nd false] at o0
 have o1:=run_wowes wp hHP rfl rfl n (A.step (nof f3)) true (hz0 A K true) (nd0 A K true)
 rw [show ((W0 ks nc).h true).owes=[] from new_owes K.nd true] at o1
 exact ⟨_,e_orF (e_cmp (e_meth (x:=.ref (1,0)) (vs:=[]) rfl (meth_of A.o) rfl (run_wletters wp rfl (n + 2) A)) rfl (ne_nil _ _ _ (new_self _ _ _))) (e_orF (e_cmp (e_meth (x:=.ref (1,0)) (vs:=[]) rfl (meth_of (A.step (nof f1)).o) rfl (run_wledger wp rfl (n + 2) (A.step (nof f1)))) rfl (ne_nil _ _ _ (new_self _ _ _))) (e_orF (e_cmp (e_meth (x:=.ref (1,0)) (vs:=[.int (hn false)]) rfl (meth_of (A.step (nof f2)).o) rfl o0) rfl (ne_nil _ _ _ (new_self _ _ _))) (e_or1 (e_cmp (e_meth (x:=.ref (1,0)) (vs:=[.int (hn true)]) rfl (meth_of (A.step (nof f3)).o) rfl o1) rfl (ne_nil _ _ _ (new_self _ _ _)))))),f3.new _ _⟩
theorem fresh2 (n:Nat) {r:Lbl}{key:Key} (hk:key∈ks) {Q:Fl×Loc→MS→Prop} (k:Q (.next,locF r nc (some (.str key)) none) s) :
  OkR (exs prog (run prog (n + 3)) (n + 3) [.ite (.or [.not (.call 121 [.meth (.loc 0) 24 [.loc 3]]),.cmp (.meth (.loc 0) 24 [.loc 3]) .ne (.int 0)]) [.ret (some (.bool false))] [],.ite (.or [.isC true (.meth (.loc 0) 0 [.int 0,.loc 3]) (.bool true),.isC true (.meth (.loc 0) 0 [.int 1,.loc 3]) (.bool false)]) [.ret (some (.bool false))] []] (locF r nc (some (.str key)) none) s) Q:=by
 have eh:ev prog (run prog (n + 3)) (.meth (.loc 0) 24 [.loc 3]) (locF r nc (some (.str key)) none) s=.ok (.int 0) s:=e_meth (x:=.ref (1,0)) (vs:=[.str key]) rfl (meth_of A.o) rfl (home_ok A K n hk)
 have h0:=run_whas wp hHP rfl n A false hk
 rw [show ((W0 ks nc).h false).has key=true from new_has K.nd hk false] at h0
 have h1:=run_whas wp hHP rfl n A true hk
 rw [show ((W0 ks nc).h true).has key=false from new_has K.nd hk true] at h1
 obtain ⟨b,-,e,hb⟩:=run_wh (n + 2) (.inl ⟨0,rfl⟩:CV (.int 0)) s
 cases hb.2 ⟨0,rfl⟩
 exact ite_no8 (e_orF (e_not (t:=true) (e_call (e_cons eh rfl) e)) (e_or1 (e_cmp eh rfl rfl))) (ite_no8 (e_orF (e_isB (t:=true) (e_meth (x:=.ref (1,0)) (vs:=[.int (hn false),.str key]) rfl (meth_of A.o) rfl h0) (decide_eq_true rfl)) (e_or1 (e_isB (t:=true) (e_meth (x:=.ref (1,0)) (vs:=[.int (hn true),.str key]) rfl (meth_of A.o) rfl h1) (decide_eq_true rfl)))) (st_nil k))
theorem fresh3 (n:Nat) {r:Lbl}{i:Nat} (hi:i < nc) {a:Option V}{Q:Fl×Loc→MS→Prop} (k:∀ t,Fr No s t→Q (.next,locF r nc a (some (.int i))) t) :
  OkR (exs prog (run prog (n + 3)) (n + 3) [.ite (.or [.isC true (.meth (.loc 0) 11 [.loc 4]) .none,.cmp (.meth (.loc 0) 12 [.loc 4]) .ne (.lst [])]) [.ret (some (.bool false))] []] (locF r nc a (some (.int i))) s) Q :=
 ite_no8 (e_orF (e_isN (g:=true) (t:=true) (e_meth (x:=.ref (1,0)) (vs:=[.int i]) rfl (meth_of A.o) rfl (run_wasking wp rfl n A hi)) (decide_eq_true rfl)) (e_or1 (e_cmp (e_meth (x:=.ref (1,0)) (vs:=[.int i]) rfl (meth_of A.o) rfl (run_wanswers wp rfl rfl rfl n A hi)) rfl (ne_nil _ _ _ (new_self _ _ _))))) (st_nil (k _ ((Fr.refl _ _).new _ _)))
theorem run_fresh (n:Nat) {r:Lbl} (hr:s.heap r=some (.list (ks.map .str))) (hc:r.2 < s.cnt r.1) (h6:nc≤6):OkR (run prog (n + 5) 127 [.ref (1,0),.ref r,.int nc] s) fun v _=>v=.bool true:=by
 obtain ⟨t,e1,f1⟩:=fresh1 A K (n + 1) (l:=[some (.ref r),some (.int nc),none,none,none])
 have At:=A.step (nof f1)
 refine okr_run (fn:=f_law_fresh) rfl rfl (ite_no8 e1 (st_for (v:=.ref r) rfl (items_list ((f1.1 r hc fun q=>q).trans hr)) rfl (okr_each V.str (fun y=>locF r nc y none) (t=·) (y:=none) rfl (fun u e=>e ▸ stays_self _ _ _) (fun key hk y u e=>e ▸ fresh2 At K (n + 1) hk ⟨rfl,⟨_,rfl⟩,rfl⟩) fun y u e=>?_)))
 subst e
 rw [seqQ_next]
 refine st_for (v:=.int nc) rfl ((items_range t nc (Int.natCast_nonneg _) (Int.ofNat_le.2 (Nat.le_trans h6 (by decide)))).trans (by rw [Int.toNat_natCast])) rfl (okr_each (fun (i:Nat)=>V.int i) (fun b=>locF r nc y b) (Fr No t) (xs:=List.range nc) (y:=none) (.refl _ _) (fun _ _=>rfl) (fun i hi b u f=>fresh3 (At.step (nof f)) K (n + 1) (List.mem_range.1 hi) fun u' f'=>⟨rfl,⟨_,rfl⟩,f.trans f'⟩) fun b u f=>?_)
 rw [seqQ_next]
 have Au:=At.step (nof f)
 obtain ⟨v,u1,e2,rfl,f2⟩:=okr_elim (settle_ok Au K n)
 have A1:=Au.step (nof f2)
 obtain ⟨b',-,e3,hb⟩:=run_wh (n + 3) (.inl ⟨0,rfl⟩:CV (.int 0)) u1
 cases hb.2 ⟨0,rfl⟩
 exact st_assign (e_meth (x:=.ref (1,0)) (vs:=[]) rfl (meth_of Au.o) rfl e2) rfl (st_ret (v:=.bool true) (e_andT (e_call (vs:=[.int 0]) rfl e3) (e_andT rfl (e_and1 (e_cmp (e_meth (x:=.ref (1,0)) (vs:=[]) rfl (meth_of A1.o) rfl (run_wletters wp rfl (n + 3) A1)) rfl (eq_nil _ _ _ (new_self _ _ _)))))) rfl)
end
noncomputable def oddS:Key:=[32,33,34,35,36,38,39,40,41,42,43,44,45,46,47,48,49,50,51,52,53,54,55,56,57,58,59,60,61,62,63,64,65,66,67,68,69,70,71,72,73,74,75,76,77,78,79,80,81,82,83,84,85,86,87,88,89,90,91,92,93,94,95,96,123,124,125,126,10,9]
theorem odd_asc:∀ c∈oddS,c < 128:=fun c hc=>of_decide_eq_true (List.all_eq_true.1 (show oddS.all (fun c=>decide (c < 128))=true from rfl) c hc)
theorem mod_at {C:Calls}{l:Loc}{a b:E}{k:Int}{N p:Nat} (h:0 < N) (e:k.fmod (N:Int)=p) (ha:ev prog C a l s=.ok (.int k) s) (hb:ev prog C b l s=.ok (.int (N:Nat)) s):ev prog C (.bin .mod a b) l s=.ok (.int p) s:=by
 refine e_bin ha hb ?_
 show (if (N:Int)=0 then Res.stuck else Res.ok (V.int (k.fmod (N:Int))) s)=_
 rw [if_neg (by omega),e]
noncomputable def odds (ch:Nat) (s:MS):List V:=[.str [],.none,.int 5,.lst [.str [97]],.tup [.str [97]],.str [97,98,99,100,101,102,103,104,105],.str [ch],.str [97,ch],.str [ch,98,99],.str [97,98,ch],.bool true,.ref (60,s.cnt 60)]
theorem nice_of {x:Key} (h:x.length≤100) (a:x.all (fun c=>decide (c < 128))=true):Nice x:=⟨h,fun c hc=>of_decide_eq_true (List.all_eq_true.1 a c hc)⟩
theorem odds_item {ch:Nat} (h:ch < 128):∀ v∈odds ch s,Item (s.new 60 (.dict [])) v:=by
 have hd:=decide_eq_true h
 have fl:∀ {v:V} (g:Tag),g≠.str→(∀ s,tagOf s v=some g)→Item (s.new 60 (.dict [])) v:=fun g h1 h2=>.inr ⟨g,h1,.inl h2⟩
 have sr:∀ {x:Key},x.length≤100→x.all (fun c=>decide (c < 128))=true→Item (s.new 60 (.dict [])) (.str x):=fun h1 h2=>.inl ⟨_,rfl,nice_of h1 h2⟩
 unfold odds
 refine List.forall_mem_cons.2 ⟨sr (by decide) rfl,List.forall_mem_cons.2 ⟨fl .none nofun fun _=>rfl,List.forall_mem_cons.2 ⟨fl .int nofun fun _=>rfl,List.forall_mem_cons.2 ⟨fl .list nofun fun _=>rfl,List.forall_mem_cons.2 ⟨fl .tuple nofun fun _=>rfl,List.forall_mem_cons.2 ⟨sr (by decide) rfl,?_⟩⟩⟩⟩⟩⟩
 refine List.forall_mem_cons.2 ⟨sr (show 1≤100 by decide) (by rw [List.all_cons,hd]; rfl),List.forall_mem_cons.2 ⟨sr (show 2≤100 by decide) (by rw [List.all_cons,List.all_cons,hd]; rfl),List.forall_mem_cons.2 ⟨sr (show 3≤100 by decide) (by rw [List.all_cons,hd]; rfl),List.forall_mem_cons.2 ⟨sr (show 3≤100 by decide) (by rw [List.all_cons,List.all_cons,List.all_cons,hd]; rfl),List.forall_mem_cons.2 ⟨fl .bool nofun fun _=>rfl,List.forall_mem_cons.2 ⟨.inr ⟨.dict,nofun,.inr ⟨_,rfl,new_self _ _ _,rfl⟩⟩,fun _ h=>nomatch h⟩⟩⟩⟩⟩⟩
theorem run_odd (n:Nat) (c:Int) {r:Lbl}{ks:List Key} (hr:s.heap r=some (.list (ks.map .str))) (h60:r.1≠60) (hk:∀ k∈ks,Nice k):OkR (run prog (n + 1) 125 [.int c,.ref r] s) fun v t=>t=s.new 60 (.dict [])∧Item t v:=by
 obtain ⟨p,hp,ep⟩:=fmod_nat (c.fdiv 12) (N:=oddS.length) (by decide)
 have hpi:((p:Nat):Int) < (oddS.length:Nat):=Int.ofNat_lt.2 hp
 have e1:=i_str oddS p s (Int.natCast_nonneg p) hpi (by decide)
 have hch:oddS[((p:Nat):Int).toNat]'(by rw [Int.toNat_natCast]; exact hp) < 128:=odd_asc _ (List.getElem_mem _)
 generalize oddS[((p:Nat):Int).toNat]'(by rw [Int.toNat_natCast]; exact hp)=ch at e1 hch
 obtain ⟨q,hq,eq⟩:=fmod_nat c (N:=12) (by decide)
 have hql:q < (odds ch s).length:=hq
 have hit:=odds_item (s:=s) hch _ (List.getElem_mem hql)
 have e2:=i_seq (s:=s.new 60 (.dict [])) (a:=.lst (odds ch s)) (k:=true) rfl q hql
 generalize (odds ch s)[q]=v at hit e2
 have hr':(s.new 60 (.dict [])).heap r=some (.list (ks.map .str)):=(new_ne fun e=>h60 (congrArg Prod.fst e)).trans hr
 refine okr_run (fn:=f_law_odd) rfl rfl (st_assign (v:=.str oddS) rfl rfl (st_assign (v:=.str [ch]) (s':=s) (e_sub (x:=.str oddS) (y:=.int p) rfl (mod_at (k:=c.fdiv 12) (N:=oddS.length) (by decide) ep rfl rfl) e1) rfl (st_assign (v:=v) (s':=s.new 60 (.dict [])) (e_sub (x:=.lst (odds ch s)) (y:=.int q) (e_lst (vs:=odds ch s) rfl rfl) (e_bin (x:=.int c) (y:=.int 12) rfl rfl (congrArg (fun q=>Res.ok (V.int q) _) eq)) e2) rfl ?_)))
 have el:lenV (.ref r) (s.new 60 (.dict []))=.ok (.int ((ks.map V.str).length:Nat)) (s.new 60 (.dict [])):=len_seq (seq_ref hr')
 by_cases h1:(c.fdiv 1009).fmod 3=1
 ·have hl:ev prog (run prog n) (.cmp (.prim .len [.loc 1]) .gt (.int 0)) [some (.int c),some (.ref r),some (.str oddS),some (.str [ch]),some v] (s.new 60 (.dict []))=.ok (.bool (decide ((0:Int) < ((ks.map V.str).length:Nat)))) (s.new 60 (.dict [])):=e_cmp (e_prim (vs:=[.ref r]) rfl el) rfl rfl
  by_cases h2:(0:Int) < ((ks.map V.str).length:Nat)
  ·rw [decide_eq_true h2] at hl
   have h2:=Int.ofNat_lt.1 h2
   obtain ⟨j,hj,ej⟩:=fmod_nat (c.fdiv 3027) h2
   refine st_if (t:=true) (e_andT (congrArg (fun q=>Res.ok (V.bool q) _) (decide_eq_true h1)) (e_and1 hl)) (st_assign (e_sub rfl (mod_at h2 ej rfl (e_prim (vs:=[.ref r]) rfl el)) (i_seq (seq_ref hr') j hj)) rfl (st_next (st_ret rfl ⟨rfl,?_⟩)))
   have hm:=List.getElem_mem hj
   generalize (ks.map V.str)[j]=y at hm
   obtain ⟨k,hk',rfl⟩:=memb_map hm
   exact .inl ⟨k,rfl,hk k hk'⟩
  ·rw [decide_eq_false h2] at hl
   exact st_if (t:=false) (e_andT (congrArg (fun q=>Res.ok (V.bool q) _) (decide_eq_true h1)) (e_and1 hl)) (st_next (st_ret rfl ⟨rfl,hit⟩))
 ·exact st_if (t:=false) (e_andF (congrArg (fun q=>Res.ok (V.bool q) _) (decide_eq_false h1))) (st_next (st_ret rfl ⟨rfl,hit⟩))
noncomputable abbrev loc8 (l:List Int) (w c:Int) (cv far hd wd:Option V):Loc:=[some (.lst (l.map .int)),some (.ref (48,0)),some (.int w),some (.int c),cv,far,hd,wd]
set_option genCtorIdx false in
structure Std8 (s:MS) (xs:List V):Prop where
 h:s.heap (48,0)=some (.list xs)
 it:∀ v∈xs,Item s v
 l:xs.length≤100
 z:∀ k,k < 11→s.cnt k=0
 z39:s.cnt 39=0
 c48:0 < s.cnt 48
theorem Item.mono {t:MS}{v:V} (h:Item s v) (hh:∀ j,s.heap (60,j)=some (.dict [])→t.heap (60,j)=some (.dict [])):Item t v :=
 h.imp id fun ⟨g,h1,h2⟩=>⟨g,h1,h2.imp id fun ⟨j,e,h3,h4⟩=>⟨j,e,hh j h3,h4⟩⟩
theorem insert_at {r:Lbl}{xs:List V}{p:Nat}{v:V} (h:s.heap r=some (.list xs)) (hp:p≤xs.length) (hl:xs.length < 16777216):bmeth .insert (.ref r) [.int p,v] s=.ok .none (s.put r (.list (xs.take p ++ v :: xs.drop p))):=by
 show (match listAt (.ref r) s with | some q=>if 0≤(p:Int)∧(p:Int)≤(q.2.length:Nat)∧q.2.length < sizeMax then Res.ok V.none (s.put q.1 (.list (q.2.take (p:Int).toNat ++ v :: q.2.drop (p:Int).toNat))) else .stuck | none=>.stuck)=_
 rw [list_at h]
 exact if_pos ⟨Int.natCast_nonneg p,Int.ofNat_le.2 hp,hl⟩
theorem bm_ins {r:Lbl}{xs:List V} (h:s.heap r=some (.list xs)):bmOk .insert (.ref r) s=true:=by
 show (listAt (.ref r) s).isSome=true
 rw [list_at h]; rfl
theorem law_ins (n:Nat) {l:List Int}{w c:Int}{ks:List Key} (St:Std8 s (ks.map .str)) (hk:∀ k∈ks,Nice k) (hl:ks.length≤8) {r:List S}{Q:Fl×Loc→MS→Prop} (k:∀ t xs,Std8 t xs→OkR (exs prog (run prog (n + 2)) (n + 2) r (loc8 l w c none none none none) t) Q) :
  OkR (exs prog (run prog (n + 2)) (n + 2) (.ite (.cmp (.loc 2) .lt (.int 3)) [.expr (.bm .insert (.loc 1) [.bin .mod (.bin .fdiv (.call 100 [.loc 0,.int 1]) (.int 8)) (.bin .add (.prim .len [.loc 1]) (.int 1)),.call 125 [.loc 3,.loc 1]])] [] :: r) (loc8 l w c none none none none) s) Q:=by
 by_cases hw:w < 3
 ·obtain ⟨v,t,e,rfl,hv⟩:=okr_elim (run_odd (n + 1) c St.h (by decide) hk)
  obtain ⟨p,hp,ep⟩:=fmod_nat ((l.getD 1 0).fdiv 8) (N:=(ks.map V.str).length + 1) (Nat.succ_pos _)
  have hl':(ks.map V.str).length≤8:=by rw [List.length_map]; exact hl
  have ht:(s.new 60 (.dict [])).heap (48,0)=some (.list (ks.map .str)):=(new_ne (kind_ne (by decide))).trans St.h
  refine st_if (t:=true) (congrArg (fun q=>Res.ok (V.bool q) s) (decide_eq_true hw)) (st_expr (e_bm (x:=.ref (48,0)) (vs:=[.int p,v]) rfl (bm_ins St.h) (e_cons (mod_at (k:=(l.getD 1 0).fdiv 8) (Nat.succ_pos _) ep (e_bin (x:=.int (l.getD 1 0)) (e_call (vs:=[.lst (l.map .int),.int 1]) rfl (run_cell1 p_cell (n + 1) l s)) rfl rfl) (e_bin (x:=.int ((ks.map V.str).length:Nat)) (e_prim (vs:=[.ref (48,0)]) rfl (len_seq (seq_ref St.h))) rfl rfl)) (e_cons (e_call (vs:=[.int c,.ref (48,0)]) rfl e) rfl)) (insert_at ht (Nat.le_of_lt_succ hp) (Nat.lt_of_le_of_lt hl' (by decide)))) (st_next (k _ _ ⟨put_self _ _ _,?_,?_,fun k hk=>(if_neg (Nat.ne_of_lt (Nat.lt_trans hk (by decide)))).trans (St.z k hk),St.z39,St.c48⟩)))
  ·have hm:∀ {v:V},Item (s.new 60 (.dict [])) v→Item ((s.new 60 (.dict [])).put (48,0) (.list ((ks.map .str).take p ++ v :: (ks.map .str).drop p))) v:=fun h=>h.mono fun j hj=>(put_ne (kind_ne (by decide))).trans hj
   have hs:∀ {o:MObj}{y:V},y∈ks.map V.str→Item ((s.new 60 (.dict [])).put (48,0) o) y:=fun h=>by
    obtain ⟨k,hk',rfl⟩:=memb_map h
    exact .inl ⟨k,rfl,hk k hk'⟩
   intro y hy
   rcases List.mem_append.1 hy with h | h
   ·exact hs (List.mem_of_mem_take h)
   ·rcases List.mem_cons.1 h with rfl | h
    ·exact hv.mono fun j hj=>(put_ne (kind_ne (by decide))).trans hj
    ·exact hs (List.mem_of_mem_drop h)
  ·rw [List.length_append,List.length_cons,List.length_take,List.length_drop]; omega
 ·exact st_if (t:=false) (congrArg (fun q=>Res.ok (V.bool q) s) (decide_eq_false hw)) (st_next (k s _ St))
noncomputable def callersL (f:Int):List V:=[.int (-2),.int (-1),.int 0,.int 7,.int 8,.int 9,.bool true,.bool false,.none,.str [51],.int f,.int (-f),.lst [.int 1]]
theorem callers_cv (f:Int):∀ v∈callersL f,CV v:=by
 have i:∀ j,CV (.int j):=fun j=>.inl ⟨j,rfl⟩
 unfold callersL
 exact List.forall_mem_cons.2 ⟨i _,List.forall_mem_cons.2 ⟨i _,List.forall_mem_cons.2 ⟨i _,List.forall_mem_cons.2 ⟨i _,List.forall_mem_cons.2 ⟨i _,List.forall_mem_cons.2 ⟨i _,List.forall_mem_cons.2 ⟨.inr (.inl ⟨_,rfl⟩),List.forall_mem_cons.2 ⟨.inr (.inl ⟨_,rfl⟩),List.forall_mem_cons.2 ⟨.inr (.inr (.inl rfl)),List.forall_mem_cons.2 ⟨.inr (.inr (.inr (.inl ⟨_,rfl⟩))),List.forall_mem_cons.2 ⟨i _,List.forall_mem_cons.2 ⟨i _,List.forall_mem_cons.2 ⟨.inr (.inr (.inr (.inr ⟨_,rfl⟩))),fun _ h=>nomatch h⟩⟩⟩⟩⟩⟩⟩⟩⟩⟩⟩⟩⟩
theorem law_call (n:Nat) {l:List Int}{w c:Int}{r:List S}{Q:Fl×Loc→MS→Prop} (k:∀ cv far,CV cv→OkR (exs prog (run prog (n + 2)) (n + 2) r (loc8 l w c (some cv) far none none) s) Q) :
  OkR (exs prog (run prog (n + 2)) (n + 2) (.assign 4 (.bin .add (.int 1) (.bin .mod (.call 100 [.loc 0,.int 3]) (.int 6))) :: .ite (.cmp (.bin .mod (.bin .fdiv (.call 100 [.loc 0,.int 3]) (.int 6)) (.int 3)) .eq (.int 1)) [.assign 5 (.bin .add (.bin .pow (.int 10) (.int 20)) (.bin .mod (.loc 3) (.bin .pow (.int 10) (.int 20)))),.assign 4 (.sub (.lst [.neg (.int 2),.neg (.int 1),.int 0,.int 7,.int 8,.int 9,.bool true,.bool false,.none,.str [51],.loc 5,.neg (.loc 5),.lst [.int 1]]) (.bin .mod (.bin .fdiv (.call 100 [.loc 0,.int 3]) (.int 18)) (.int 13)))] [] :: r) (loc8 l w c none none none none) s) Q:=by
 have ec:∀ (a b:Option V),ev prog (run prog (n + 2)) (.call 100 [.loc 0,.int 3]) (loc8 l w c a b none none) s=.ok (.int (l.getD 3 0)) s:=fun a b=>e_call (vs:=[.lst (l.map .int),.int (3:Nat)]) rfl (run_cell p_cell (n + 1) l 3 s)
 refine st_assign (v:=.int (1 + (l.getD 3 0).fmod 6)) (s':=s) (e_bin (x:=.int 1) rfl (e_bin (x:=.int (l.getD 3 0)) (y:=.int 6) (ec none none) rfl rfl) rfl) rfl ?_
 have ei:ev prog (run prog (n + 2)) (.cmp (.bin .mod (.bin .fdiv (.call 100 [.loc 0,.int 3]) (.int 6)) (.int 3)) .eq (.int 1)) (loc8 l w c (some (.int (1 + (l.getD 3 0).fmod 6))) none none none) s=.ok (.bool (decide ((((l.getD 3 0).fdiv 6).fmod 3)=1))) s:=e_cmp (x:=.int (((l.getD 3 0).fdiv 6).fmod 3)) (e_bin (x:=.int ((l.getD 3 0).fdiv 6)) (y:=.int 3) (e_bin (x:=.int (l.getD 3 0)) (y:=.int 6) (ec _ none) rfl rfl) rfl rfl) rfl rfl
 by_cases h:((l.getD 3 0).fdiv 6).fmod 3=1
 ·rw [decide_eq_true h] at ei
  obtain ⟨q,hq,eq⟩:=fmod_nat ((l.getD 3 0).fdiv 18) (N:=13) (by decide)
  refine st_if (t:=true) ei (st_assign (v:=.int (100000000000000000000 + c.fmod 100000000000000000000)) (s':=s) rfl rfl ?_)
  have hcv:=callers_cv (100000000000000000000 + c.fmod 100000000000000000000) _ (List.getElem_mem (show q < (callersL (100000000000000000000 + c.fmod 100000000000000000000)).length from hq))
  have e2:=i_seq (s:=s) (a:=.lst (callersL (100000000000000000000 + c.fmod 100000000000000000000))) (k:=true) rfl q hq
  generalize (callersL (100000000000000000000 + c.fmod 100000000000000000000))[q]'hq=cv at hcv e2
  exact st_assign (v:=cv) (s':=s) (e_sub (x:=.lst (callersL (100000000000000000000 + c.fmod 100000000000000000000))) (y:=.int q) (e_lst (vs:=callersL (100000000000000000000 + c.fmod 100000000000000000000)) rfl rfl) (e_bin (x:=.int ((l.getD 3 0).fdiv 18)) (y:=.int 13) (e_bin (x:=.int (l.getD 3 0)) (y:=.int 18) (ec _ _) rfl rfl) rfl (congrArg (fun q=>Res.ok (V.int q) s) eq)) e2) rfl (st_next (k cv _ hcv))
 ·rw [decide_eq_false h] at ei
  exact st_if (t:=false) ei (st_next (k _ _ (.inl ⟨_,rfl⟩)))
noncomputable def NotL (t:MS) (K:V):Prop:=∃ g,g≠Tag.list∧tagOf t K=some g∧∀ o,tagOf (t.new 1 o) K=some g
noncomputable def handL (xs:List V) (s:MS):List V:=[.tup xs,.none,.str [97,98,99],.ref (60,s.cnt 60),.int 5]
theorem hand_not (xs:List V):∀ K∈handL xs s,NotL (s.new 60 (.dict [])) K:=by
 unfold handL
 refine List.forall_mem_cons.2 ⟨⟨.tuple,nofun,rfl,fun _=>rfl⟩,List.forall_mem_cons.2 ⟨⟨.none,nofun,rfl,fun _=>rfl⟩,List.forall_mem_cons.2 ⟨⟨.str,nofun,rfl,fun _=>rfl⟩,List.forall_mem_cons.2 ⟨⟨.dict,nofun,?_,fun o=>?_⟩,List.forall_mem_cons.2 ⟨⟨.int,nofun,rfl,fun _=>rfl⟩,fun _ h=>nomatch h⟩⟩⟩⟩⟩
 ·show (match (s.new 60 (.dict [])).heap (60,s.cnt 60) with | some (.list _)=>some Tag.list | some (.dict _)=>some Tag.dict | _=>none)=_
  rw [new_self]
 ·show (match ((s.new 60 (.dict [])).new 1 o).heap (60,s.cnt 60) with | some (.list _)=>some Tag.list | some (.dict _)=>some Tag.dict | _=>none)=_
  rw [new_ne (kind_ne (by decide)),new_self]
theorem law_hand (n:Nat) {l:List Int}{w c:Int}{cv far:Option V}{xs:List V} (St:Std8 s xs) {r:List S}{Q:Fl×Loc→MS→Prop} (k1:OkR (exs prog (run prog (n + 2)) (n + 2) r (loc8 l w c cv far (some (.ref (48,0))) none) s) Q) (k2:∀ K t,NotL t K→OkR (exs prog (run prog (n + 2)) (n + 2) r (loc8 l w c cv far (some K) none) t) Q) :
  OkR (exs prog (run prog (n + 2)) (n + 2) (.assign 6 (.loc 1) :: .ite (.cmp (.loc 2) .eq (.int 3)) [.assign 6 (.sub (.lst [.prim .tuple1 [.loc 1],.none,.str [97,98,99],.dictM 60 [] [],.int 5]) (.bin .mod (.loc 3) (.int 5)))] [] :: r) (loc8 l w c cv far none none) s) Q:=by
 refine st_assign (v:=.ref (48,0)) (s':=s) rfl rfl ?_
 by_cases h:w=3
 ·obtain ⟨q,hq,eq⟩:=fmod_nat c (N:=5) (by decide)
  have hK:=hand_not (s:=s) xs _ (List.getElem_mem (show q < (handL xs s).length from hq))
  have e2:=i_seq (s:=s.new 60 (.dict [])) (a:=.lst (handL xs s)) (k:=true) rfl q hq
  generalize (handL xs s)[q]'hq=K at hK e2
  have et:ev prog (run prog (n + 2)) (.prim .tuple1 [.loc 1]) (loc8 l w c cv far (some (.ref (48,0))) none) s=.ok (.tup xs) s:=e_prim (vs:=[.ref (48,0)]) rfl (by
   show (match seqOf s (.ref (48,0)) with | some p=>Res.ok (V.tup p.2) s | none=>.stuck)=_
   rw [seq_ref St.h])
  exact st_if (t:=true) (congrArg (fun q=>Res.ok (V.bool q) s) (decide_eq_true h)) (st_assign (v:=K) (s':=s.new 60 (.dict [])) (e_sub (x:=.lst (handL xs s)) (y:=.int q) (e_lst (vs:=handL xs s) (e_cons et (e_cons rfl (e_cons rfl (e_cons rfl rfl)))) rfl) (e_bin (x:=.int c) (y:=.int 5) rfl rfl (congrArg (fun q=>Res.ok (V.int q) _) eq)) e2) rfl (st_next (k2 K _ hK)))
 ·exact st_if (t:=false) (congrArg (fun q=>Res.ok (V.bool q) s) (decide_eq_false h)) (st_next k1)
theorem law_not (n:Nat) {l:List Int}{w c:Int}{cv K:V}{far:Option V} (hK:NotL s K) {r:List S}{Q:Fl×Loc→MS→Prop} (k:∀ L t,Q (.ret (.bool true),L) t) :
  OkR (exs prog (run prog (n + 4)) (n + 4) (.ite (.not (.call 126 [.loc 6,.loc 4])) [.ret (some (.call 123 [.loc 6,.loc 4]))] [] :: r) (loc8 l w c (some cv) far (some K) none) s) Q:=by
 obtain ⟨g,h1,h2,h3⟩:=hK
 obtain ⟨v,u,e,rfl⟩:=okr_elim (run_refused (s:=s) (K:=K) (cv:=cv) n (run_nw0 n (h3 _) h1))
 exact st_if (t:=true) (e_not (t:=false) (e_call (vs:=[K,cv]) rfl (run_good0 (n + 3) h2 h1))) (st_ret (e_call (vs:=[K,cv]) rfl e) (k _ _))
theorem law_list (n:Nat) {l:List Int}{w c:Int}{cv:V}{far:Option V}{xs:List V} (St:Std8 s xs) (hc:CV cv) {r:List S}{Q:Fl×Loc→MS→Prop} (k:∀ L t,Q (.ret (.bool true),L) t)
  (kg:GoodK xs→GoodC cv→OkR (exs prog (run prog (n + 4)) (n + 4) r (loc8 l w c (some cv) far (some (.ref (48,0))) none) s) Q) :
  OkR (exs prog (run prog (n + 4)) (n + 4) (.ite (.not (.call 126 [.loc 6,.loc 4])) [.ret (some (.call 123 [.loc 6,.loc 4]))] [] :: r) (loc8 l w c (some cv) far (some (.ref (48,0))) none) s) Q:=by
 obtain ⟨v,t,e,rfl,b,rfl,hb⟩:=okr_elim (run_good (n + 2) (s:=s) ⟨seq_ref St.h,St.it,St.l⟩ hc)
 have e1:=e_not (e_call (P:=prog) (es:=[.loc 6,.loc 4]) (l:=loc8 l w c (some cv) far (some (.ref (48,0))) none) (vs:=[.ref (48,0),cv]) rfl e)
 cases b with
 | true=>exact st_if (t:=false) e1 (st_next (kg (hb.1 rfl).1 (hb.1 rfl).2))
 | false =>
  have hd:Hd (t.new 1 (.inst 0 [])) (.ref (48,0)) xs:=⟨seq_ref ((new_ne (kind_ne (by decide))).trans St.h),fun v hv=>(St.it v hv).mono fun j hj=>(new_ne (kind_ne (by decide))).trans hj,St.l⟩
  obtain ⟨v,u,e2,rfl⟩:=okr_elim (run_refused (s:=t) (K:=.ref (48,0)) (cv:=cv) n (out_mono (run_nw n hd hc) (fun _ _ q=>nomatch hb.2 q.2.2) fun _ _ q=>⟨q.1,q.2.1⟩))
  exact st_if (t:=true) e1 (st_ret (e_call (vs:=[.ref (48,0),cv]) rfl e2) (k _ _))
theorem law_world (n:Nat) {ks:List Key} (K:KeysFine ks) {nc:Nat} (h1:1≤nc) (h6:nc≤6) {j:Nat} (hr:s.heap (39,j)=some (.list (ks.map .str))) (hj:j < s.cnt 39) (hz:∀ k,k < 11→s.cnt k=0) :
  OkR (makeInst prog (run prog (n + 4)) 0 [.ref (39,j),.int nc] s) fun v u=>v=.ref (1,0)∧(∃ x,WAt u ks (W0 ks nc) x)∧Fr (fun _=>False) s u:=by
 refine make_with rfl hz fun t q0 l1 ck f0=>okr_run (fn:=f_World_init) rfl rfl ?_
 have ht:t.heap (39,j)=some (.list (ks.map .str)):=(f0.1 (39,j) hj fun q=>q).trans hr
 have hd:Hd t (.ref (39,j)) (ks.map .str):=⟨seq_ref ht,fun v hv=>by
  obtain ⟨k,hk,rfl⟩:=memb_map hv
  have:=K.all k hk
  exact .inl ⟨k,rfl,Nat.le_trans this.eig (by decide),fun c hc=>Nat.lt_of_le_of_lt (this.abc c hc).2 (by decide)⟩,by rw [List.length_map]; exact Nat.le_trans K.six (by decide)⟩
 rcases out_elim (run_nw (n + 1) hd (.inl ⟨nc,rfl⟩:CV (.int nc))) with ⟨v,u,e,rfl,rfl,-⟩ | ⟨c,u,-,-,-,q⟩
 ·refine st_exprXok (v:=.none) (s':=u) ?_ (world_tail hHP rfl rfl rfl (n + 2) (.inr ⟨(39,j),rfl,of_decide_eq_true (p:=11≤39) rfl,Nat.lt_of_lt_of_le hj (f0.2 39),ht⟩) (Nat.lt_of_le_of_lt K.six (by decide)) h6 q0 l1 (fun k h h'=>(ck k h).trans (hz k h')) fun u' L x A f hu=>⟨rfl,rfl,⟨x,A⟩,f0.fresh f (Nat.le_of_eq (hz 1 (by decide)))⟩)
  rw [evQ_call]; exact e
 ·exact (q ⟨⟨ks,rfl,K⟩,nc,rfl,h1,h6⟩).elim
noncomputable def later:Key:=[76,97,116,101,114]
theorem later_not {ks:List Key} (K:KeysFine ks):later ∉ ks:=fun h=>absurd ((K.all later h).abc 76 (List.mem_cons_self ..)).1 (by decide)
theorem e_newE {P:Prog}{C:Calls}{l:Loc}{c:Nat}{es:List E}{vs:List V}{v:V}{s1 s':MS} (h1:evL P C es l s=.ok vs s1) (h2:makeInst P C c vs s1=.ok v s'):ev P C (.new c es) l s=.ok v s':=by
 rw [ev_new,h1]; exact h2
theorem law_world' (n:Nat) {ks:List Key} (K:KeysFine ks) {nc:Nat} (h1:1≤nc) (h6:nc≤6) {j:Nat} (hr:s.heap (39,j)=some (.list (ks.map .str))) (hj:j < s.cnt 39) (hz:∀ k,k < 11→s.cnt k=0) :
  ∃ u x,makeInst prog (run prog (n + 4)) 0 [.ref (39,j),.int nc] s=.ok (.ref (1,0)) u∧WAt u ks (W0 ks nc) x∧Fr (fun _=>False) s u:=by
 have h:=law_world n K h1 h6 hr hj hz
 generalize makeInst prog (run prog (n + 4)) 0 [.ref (39,j),.int nc] s=r at h
 obtain ⟨v,u,e,e2,⟨x,A⟩,f⟩:=okr_elim h
 exact ⟨u,x,e2 ▸ e,A,f⟩
theorem same_lists {a b:Lbl}{ks:List Key} (ha:s.heap a=some (.list (ks.map .str))) (hb:s.heap b=some (.list (ks.map .str))):cmpOp .ne (.ref a) (.ref b) s=.ok (.bool false) s:=by
 have h:∀ v∈ks.map V.str,veq s 11 v v=some true:=fun v hv=>by
  obtain ⟨k,-,rfl⟩:=memb_map hv
  exact congrArg some (decide_eq_true rfl)
 show okB s ((veq s 12 (.ref a) (.ref b)).map (!·))=_
 rw [veq_refs s 11 _ _ _ ha hb h]; rfl
theorem law_end (n:Nat) {l:List Int}{w c:Int}{far:Option V}{ks:List Key}{nc j:Nat}{x:Bool→HIx} (A:WAt s ks (W0 ks nc) x) (K:KeysFine ks) (h6:nc≤6) (h39:s.heap (39,j)=some (.list (ks.map .str))) (h48:s.heap (48,0)=some (.list (ks.map .str))) (c48:0 < s.cnt 48) {Q:Fl×Loc→MS→Prop} (k:∀ L t,Q (.ret (.bool true),L) t) :
  OkR (exs prog (run prog (n + 5)) (n + 5) [.ite (.cmp (.loc 6) .ne (.loc 1)) [.ret (some (.bool false))] [],.expr (.bm .append (.loc 6) [.str [76,97,116,101,114]]),.ret (some (.and [.call 128 [.loc 7,.str [76,97,116,101,114]],.call 127 [.loc 7,.loc 1,.loc 4]]))] (loc8 l w c (some (.int nc)) far (some (.ref (39,j))) (some (.ref (1,0)))) s) Q:=by
 have A2:=A.step ((Fr.refl NW s).put (l:=(39,j)) (of_decide_eq_true (p:=11≤39) rfl) (.list (ks.map .str ++ [.str later])))
 have e1:=run_nokey (n + 2) A2 (later_not K)
 obtain ⟨v,t,e2,rfl⟩:=okr_elim (run_fresh A2 K n (r:=(48,0)) ((put_ne (kind_ne (by decide))).trans h48) c48 h6)
 have hap:=e_app (P:=prog) (C:=run prog (n + 5)) (a:=.loc 6) (b:=.str [76,97,116,101,114]) (l:=loc8 l w c (some (.int nc)) far (some (.ref (39,j))) (some (.ref (1,0)))) (q:=(39,j)) (v:=.str later) rfl h39 rfl (by rw [List.length_map]; exact Nat.lt_of_le_of_lt K.six (by decide))
 generalize s.put (39,j) (.list (ks.map .str ++ [.str later]))=u at A2 e1 e2 hap
 exact st_if (t:=false) (s':=s) (e_cmp (x:=.ref (39,j)) (y:=.ref (48,0)) rfl rfl (same_lists h39 h48)) (st_next (st_expr hap (st_ret (v:=.bool true) (s':=t) (e_andT (e_call (vs:=[.ref (1,0),.str later]) (s1:=u) rfl e1) (e_and1 (e_call (vs:=[.ref (1,0),.ref (48,0),.int nc]) (s1:=u) rfl e2))) (k _ _))))
theorem law_good (n:Nat) {l:List Int}{w c:Int}{cv:V}{far hd:Option V}{xs:List V} (St:Std8 s xs) (hg:GoodK xs) (hc:GoodC cv) {Q:Fl×Loc→MS→Prop} (k:∀ L t,Q (.ret (.bool true),L) t) :
  OkR (exs prog (run prog (n + 5)) (n + 5) [.assign 6 (.listM 39 (.loc 1)),.assign 7 (.new 0 [.loc 6,.loc 4]),.ite (.cmp (.loc 6) .ne (.loc 1)) [.ret (some (.bool false))] [],.expr (.bm .append (.loc 6) [.str [76,97,116,101,114]]),.ret (some (.and [.call 128 [.loc 7,.str [76,97,116,101,114]],.call 127 [.loc 7,.loc 1,.loc 4]]))] (loc8 l w c (some cv) far hd none) s) Q:=by
 obtain ⟨ks,rfl,K⟩:=hg
 obtain ⟨nc,rfl,h1,h6⟩:=hc
 have f0:Fr (fun _=>False) s (s.new 39 (.list (ks.map .str))):=(Fr.refl _ _).new _ _
 have h39:(s.new 39 (.list (ks.map .str))).heap (39,s.cnt 39)=some (.list (ks.map .str)):=new_self _ _ _
 have c39:s.cnt 39 < (s.new 39 (.list (ks.map .str))).cnt 39:=by rw [cnt_self]; exact Nat.lt_succ_self _
 have hz:∀ k,k < 11→(s.new 39 (.list (ks.map .str))).cnt k=0:=fun k hk=>(if_neg (Nat.ne_of_lt (Nat.lt_trans hk (by decide)))).trans (St.z k hk)
 refine st_assign (v:=.ref (39,s.cnt 39)) (s':=s.new 39 (.list (ks.map .str))) (e_listM rfl (seq_ref St.h)) rfl ?_
 show OkR (exs prog _ _ _ (loc8 l w c (some (.int nc)) far (some (.ref (39,s.cnt 39))) none) _) _
 generalize s.new 39 (.list (ks.map .str))=s1 at f0 h39 c39 hz
 obtain ⟨u,x,e,A,f⟩:=law_world' (n + 1) K h1 h6 h39 c39 hz
 have f1:=f0.trans f
 have en:ev prog (run prog (n + 5)) (.new 0 [.loc 6,.loc 4]) (loc8 l w c (some (.int nc)) far (some (.ref (39,s.cnt 39))) none) s1=.ok (.ref (1,0)) u:=e_newE (vs:=[.ref (39,s.cnt 39),.int nc]) (s1:=s1) rfl e
 refine st_assign (v:=.ref (1,0)) (s':=u) en rfl ?_
 exact law_end n A K h6 ((f.1 (39,s.cnt 39) c39 fun q=>q).trans h39) ((f1.1 (48,0) St.c48 fun q=>q).trans St.h) (Nat.lt_of_lt_of_le St.c48 (f1.2 48)) k
theorem law_ok (n:Nat) (l:List Int):OkR (run prog (n + 6) 118 [.lst (l.map .int)] st0) fun v _=>v=.bool true:=by
 obtain ⟨hn1,hn2⟩:=names_nice (l.getD 0 0)
 have S0:Std8 (st0.new 48 (.list ((namesOf (l.getD 0 0)).map .str))) ((namesOf (l.getD 0 0)).map .str):=⟨new_self _ _ _,fun v hv=>by
  obtain ⟨k,hk,rfl⟩:=memb_map hv
  exact .inl ⟨k,rfl,hn2 k hk⟩,by rw [List.length_map]; exact Nat.le_trans hn1 (by decide),fun k hk=>if_neg (Nat.ne_of_lt (Nat.lt_trans hk (by decide))),rfl,Nat.succ_pos _⟩
 refine okr_run (fn:=f_law) rfl rfl (st_assign (v:=.ref (48,0)) (e_call (e_cons (e_call (vs:=[.lst (l.map .int),.int 0]) rfl (run_cell0 p_cell (n + 4) l st0)) rfl) (run_names (n + 4) (l.getD 0 0) st0)) rfl (st_assign (v:=.int ((l.getD 1 0).fmod 8)) (e_bin (x:=.int (l.getD 1 0)) (e_call (vs:=[.lst (l.map .int),.int 1]) rfl (run_cell1 p_cell (n + 4) l _)) rfl rfl) rfl (st_assign (e_call (vs:=[.lst (l.map .int),.int 2]) rfl (run_cell2 p_cell (n + 4) l _)) rfl ?_)))
 exact law_ins (n + 3) S0 hn2 hn1 fun t xs St=>law_call (n + 3) fun cv far hc=>law_hand (n + 3) St (law_list (n + 1) St hc (fun _ _=>rfl) fun hg hc=>law_good n St hg hc fun _ _=>rfl) fun K t hK=>law_not (n + 1) hK fun _ _=>rfl
end
end Mine.L08
end
section
open PySem PySem.W PyProof.Rows
set_option maxRecDepth 100000
set_option maxHeartbeats 8000000
namespace Mine.L08
noncomputable abbrev p:Program:=PySem.Challenge.rw_uf030007_08.row.prog
noncomputable def bd:List Stmt:=PySem.Challenge.pw_uf030007_08.main.body
noncomputable def fnIn (l:List Stmt) (i:Nat):Arguments×List Stmt×Scope:=match l[i]? with
 | some (.FunctionDef _ a b _ _ _ s _ _ _)=>(a,b,s)
 | _=>default
noncomputable def clsIn_ (l:List Stmt) (i:Nat):List Stmt:=match l[i]? with
 | some (.ClassDef _ _ _ b _ _ _ _ _ _ _)=>b
 | _=>[]
noncomputable def view:Program:={ PySem.Challenge.pw_uf030007_08 with main:={ PySem.Challenge.pw_uf030007_08.main with body:=([0,2,4,5,6,7,8,9,10,11,12,13,15,16,17,18,20,22,23,24,25,26,27,29,30,31,32,33,34,35,36,37,38]:List Nat).filterMap fun i=>bd[i]? } }
noncomputable def tE:Obj:={ cls:=.type "tuple",data:=.seq #[] }
noncomputable def nE:Obj:={ cls:=.none,data:=.fields #[] }
noncomputable def gO (n q:String) (f:Arguments×List Stmt×Scope):Obj:={ cls:=.none,data:=.func { name:=Str.ofString n,qualname:=Str.ofString q,params:=f.1,body:=.stmts f.2.1,scope:=f.2.2,globals:=0,closure:=[],defaults:=.none,kwdefaults:=.none } }
noncomputable def fO (n q:String) (f:Arguments×List Stmt×Scope) (m:String) (t c:Nat):Obj:={ cls:=.type "function",data:=.func { name:=Str.ofString n,qualname:=Str.ofString q,params:=f.1,body:=.stmts f.2.1,scope:=f.2.2,globals:=3,closure:=[],defaults:=.none,kwdefaults:=.none,pyModule:=.str (Str.ofString m) t,code:=.ref c } }
noncomputable def cfO (n q:String) (t k:Nat) (l na:Int) (a b c d e:Value):Obj:={ cls:=.type "code",data:=.fields #[.str (Str.ofString n) t,.str (Str.ofString q) (t + 1),.str (Str.ofString "/claim/cut.py") (t + 2),.int l 0,.int na 0,.int 0 0,.int 0 0,.int 3 0,a,.bool true,.int 181 0,b,.none,c,d,e,.int k 0,.int l 0,.str (Str.ofString "/claim/cut.py") (k + 1)] }
noncomputable def cO (n q:String) (t a k:Nat) (l na:Int):Obj:=cfO n q t k l na (.ref a) (.ref (a + 1)) (.ref (a + 2)) (.ref (a + 3)) (.ref (a + 4))
noncomputable def kO (n q:String) (t a k:Nat) (l na:Int):Obj:=cfO n q t k l na (.ref a) (.ref (a + 1)) .none .none (.ref (a + 2))
noncomputable def tSs:Nat→List String→List Value
 | _,[]=>[]
 | t,x :: l=>.str (Str.ofString x) t :: tSs (t + 1) l
noncomputable def tS (t:Nat) (l:List String):Obj:={ cls:=.type "tuple",data:=.seq ⟨tSs t l⟩ }
noncomputable def eV (P:Params) (k:String) (t:Nat) (v:Value):DictEntry:={ hash:=PyData.keyHash P (Str.ofString k),key:=.str (Str.ofString k) t,val:=v }
noncomputable def eR (P:Params) (k:String) (t a:Nat):DictEntry:=eV P k t (.ref a)
noncomputable def eS (P:Params) (k:String) (t:Nat) (x:String) (u:Nat):DictEntry:=eV P k t (.str (Str.ofString x) u)
noncomputable def dE (n:Nat) (l:List DictEntry):Obj:={ cls:=.type "dict",data:=.dict ⟨l⟩ n }
noncomputable def pOs:List (Int×Int×Nat)→List Value
 | []=>[]
 | (x,y,z) :: l=>.int x 0 :: .int y 0 :: .ref z :: pOs l
noncomputable def pO (l:List (Int×Int×Nat)):Obj:={ cls:=.none,data:=.fields ⟨pOs l⟩ }
noncomputable def hp (P:Params):List Obj:=(boot_heap P).objs.toList
noncomputable def o13 (P:Params):Obj:={ cls:=Value.type "code",data:=Data.fields #[Value.str (Str.ofString "<module>") 182,Value.str (Str.ofString "<module>") 183,Value.str (Str.ofString "/claim/cut.py") 184,Value.int 1 0,Value.int 0 0,Value.int 0 0,Value.int 0 0,Value.int 0 0,Value.ref 11,Value.bool false,Value.int 181 0,Value.ref 12,Value.none,Value.none,Value.none,Value.none,Value.int 185 0,Value.int 1 0,Value.str (Str.ofString "/claim/cut.py") 186] }
noncomputable def hpa (P:Params):List Obj:=(hp P) ++ [tE,nE,o13 P,{ cls:=Value.type "frame",slots:=#[some (Value.ref 13),some (Value.ref 3),some (Value.ref 3),none,some (Value.str (Str.ofString "__main__") 164),none,some (Value.ref 0)] }]
noncomputable def Sa (w:World) (os:OsState):Shared:=⟨⟨⟨hpa w.params⟩,{ }⟩,#[],{ },187,os⟩
noncomputable def hpb (P:Params):List Obj:=(hpa P)
noncomputable def Sb (w:World) (os:OsState):Shared:=⟨⟨⟨hpb w.params⟩,{ }⟩,#[],{ },187,os⟩
noncomputable def env:Env:={ scope:=p.main.scope,locals:=mainNs,globals:=mainNs,cells:=[],code:=Value.ref 13,frame:=some 14 }
noncomputable def q:Pos:={ line:=0,col:=0,endLine:=0,endCol:=0 }
noncomputable def l0:List Stmt:=((behindTheImports p).drop 0).take 4
noncomputable def l1:List Stmt:=((behindTheImports p).drop 4).take 2
noncomputable def l2:List Stmt:=((behindTheImports p).drop 6).take 2
noncomputable def l3:List Stmt:=((behindTheImports p).drop 8).take 2
noncomputable def l4:List Stmt:=((behindTheImports p).drop 10).take 2
noncomputable def l5:List Stmt:=((behindTheImports p).drop 12).take 4
noncomputable def l6:List Stmt:=((behindTheImports p).drop 16).take 4
noncomputable def l7:List Stmt:=((behindTheImports p).drop 20).take 1
noncomputable def l8:List Stmt:=((behindTheImports p).drop 21).take 6
noncomputable def l9:List Stmt:=((behindTheImports p).drop 27).take 1
noncomputable def l10:List Stmt:=((behindTheImports p).drop 28).take 11
noncomputable def r11:List Stmt:=[]
noncomputable def r10:List Stmt:=l10 ++ r11
noncomputable def r9:List Stmt:=l9 ++ r10
noncomputable def r8:List Stmt:=l8 ++ r9
noncomputable def r7:List Stmt:=l7 ++ r8
noncomputable def r6:List Stmt:=l6 ++ r7
noncomputable def r5:List Stmt:=l5 ++ r6
noncomputable def r4:List Stmt:=l4 ++ r5
noncomputable def r3:List Stmt:=l3 ++ r4
noncomputable def r2:List Stmt:=l2 ++ r3
noncomputable def r1:List Stmt:=l1 ++ r2
noncomputable def r0:List Stmt:=l0 ++ r1
noncomputable def cd:Code:=.body r0 env
noncomputable def d3v0 (P:Params):List DictEntry:=[eS P "__name__" (nat_lit 165) "movehouse.errors" (nat_lit 269),eV P "__doc__" (nat_lit 166) (Value.none),eV P "__package__" (nat_lit 167) (Value.none),eV P "__loader__" (nat_lit 168) (Value.builtin "__main__.__loader__#opaque"),eV P "__spec__" (nat_lit 169) (Value.none),eR P "__annotations__" (nat_lit 170) (nat_lit 6),eR P "__builtins__" (nat_lit 171) (nat_lit 4),eS P "__file__" (nat_lit 173) "/claim/cut.py" (nat_lit 172),eV P "__cached__" (nat_lit 174) (Value.none),eR P "_wall" (nat_lit 193) (nat_lit 21),eR P "Caller" (nat_lit 268) (nat_lit 73)]
noncomputable def o20 (P:Params):Obj:=cO "_wall" "_wall" (nat_lit 187) (nat_lit 15) (nat_lit 191) 1 1
noncomputable def o21 (P:Params):Obj:=fO "_wall" "_wall" (fnIn bd 0) "__main__" (nat_lit 164) (nat_lit 20)
noncomputable def o24 (P:Params):Obj:=dE (nat_lit 10) [eS P "__module__" (nat_lit 203) "movehouse.callers" (nat_lit 194),eS P "__qualname__" (nat_lit 205) "Caller" (nat_lit 204),eV P "__firstlineno__" (nat_lit 207) (Value.int 5 206),eR P "__init__" (nat_lit 215) (nat_lit 35),eR P "begin" (nat_lit 224) (nat_lit 42),eR P "letter" (nat_lit 233) (nat_lit 49),eR P "came" (nat_lit 242) (nat_lit 56),eR P "asking" (nat_lit 249) (nat_lit 63),eR P "answers" (nat_lit 256) (nat_lit 70),eR P "__static_attributes__" (nat_lit 261) (nat_lit 71)]
noncomputable def o27 (P:Params):Obj:={ cls:=Value.type "code",data:=Data.fields #[Value.str (Str.ofString "Caller") 198,Value.str (Str.ofString "Caller") 199,Value.str (Str.ofString "/claim/cut.py") 200,Value.int 5 0,Value.int 0 0,Value.int 0 0,Value.int 0 0,Value.int 0 0,Value.ref 25,Value.bool false,Value.int 181 0,Value.ref 26,Value.none,Value.none,Value.none,Value.none,Value.int 201 0,Value.int 5 0,Value.str (Str.ofString "/claim/cut.py") 202] }
noncomputable def o34 (P:Params):Obj:=cO "__init__" "Caller.__init__" (nat_lit 208) (nat_lit 29) (nat_lit 213) 7 2
noncomputable def o35 (P:Params):Obj:=fO "__init__" "Caller.__init__" (fnIn (clsIn_ bd 2) 0) "movehouse.callers" (nat_lit 194) (nat_lit 34)
noncomputable def o41 (P:Params):Obj:=cO "begin" "Caller.begin" (nat_lit 216) (nat_lit 36) (nat_lit 222) 13 3
noncomputable def o42 (P:Params):Obj:=fO "begin" "Caller.begin" (fnIn (clsIn_ bd 2) 1) "movehouse.callers" (nat_lit 194) (nat_lit 41)
noncomputable def o48 (P:Params):Obj:=cO "letter" "Caller.letter" (nat_lit 225) (nat_lit 43) (nat_lit 231) 18 2
noncomputable def o49 (P:Params):Obj:=fO "letter" "Caller.letter" (fnIn (clsIn_ bd 2) 2) "movehouse.callers" (nat_lit 194) (nat_lit 48)
noncomputable def o55 (P:Params):Obj:=cO "came" "Caller.came" (nat_lit 234) (nat_lit 50) (nat_lit 240) 22 3
noncomputable def o56 (P:Params):Obj:=fO "came" "Caller.came" (fnIn (clsIn_ bd 2) 3) "movehouse.callers" (nat_lit 194) (nat_lit 55)
noncomputable def o62 (P:Params):Obj:=cO "asking" "Caller.asking" (nat_lit 243) (nat_lit 57) (nat_lit 247) 27 1
noncomputable def o63 (P:Params):Obj:=fO "asking" "Caller.asking" (fnIn (clsIn_ bd 2) 4) "movehouse.callers" (nat_lit 194) (nat_lit 62)
noncomputable def o69 (P:Params):Obj:=cO "answers" "Caller.answers" (nat_lit 250) (nat_lit 64) (nat_lit 254) 30 1
noncomputable def o70 (P:Params):Obj:=fO "answers" "Caller.answers" (fnIn (clsIn_ bd 2) 5) "movehouse.callers" (nat_lit 194) (nat_lit 69)
noncomputable def o72 (P:Params):Obj:=dE (nat_lit 4) [eS P "__module__" (nat_lit 203) "movehouse.callers" (nat_lit 194),eV P "__firstlineno__" (nat_lit 207) (Value.int 5 206),eR P "__init__" (nat_lit 215) (nat_lit 35),eR P "begin" (nat_lit 224) (nat_lit 42),eR P "letter" (nat_lit 233) (nat_lit 49),eR P "came" (nat_lit 242) (nat_lit 56),eR P "asking" (nat_lit 249) (nat_lit 63),eR P "answers" (nat_lit 256) (nat_lit 70),eR P "__static_attributes__" (nat_lit 261) (nat_lit 71),eR P "__dict__" (nat_lit 263) (nat_lit 74),eR P "__weakref__" (nat_lit 265) (nat_lit 75),eV P "__doc__" (nat_lit 266) (Value.none)]
noncomputable def o73 (P:Params):Obj:={ cls:=Value.type "type",data:=Data.cls { name:=Str.ofString "Caller",bases:=[Value.type "object"],mro:=[Value.ref 73,Value.type "object"],ns:=72,qualname:=Str.ofString "Caller" },slots:=#[none,none,some (Value.str (Str.ofString "Caller") 196),some (Value.str (Str.ofString "Caller") 204),some (Value.builtin "object.__new__"),some (Value.bool true)] }
noncomputable def hp0 (P:Params):List Obj:=(((hpb P).set 3 (dE (nat_lit 11) (d3v0 P))).set 12 (pO [(1,0,20),(5,0,27)])) ++ [tE,nE,tS (nat_lit 190) ["k"],tE,gO "_wall" "_wall" (fnIn bd 0),o20 P,o21 P,tE,{ cls:=Value.type "builtin_function_or_method",data:=Data.fields #[Value.builtin "type.__prepare__",Value.type "type"] },o24 P,tE,pO [(7,4,34),(13,4,41),(18,4,48),(22,4,55),(27,4,62),(30,4,69)],o27 P,{ cls:=Value.type "frame",slots:=#[some (Value.ref 27),some (Value.ref 3),some (Value.ref 24),none,some (Value.str (Str.ofString "movehouse.callers") 194),none,some (Value.ref 0)] },tE,nE,tS (nat_lit 211) ["self","number"],tE,gO "__init__" "Caller.__init__" (fnIn (clsIn_ bd 2) 0),o34 P,o35 P,tE,nE,tS (nat_lit 219) ["self","key","wish"],tE,gO "begin" "Caller.begin" (fnIn (clsIn_ bd 2) 1),o41 P,o42 P,tE,nE,tS (nat_lit 228) ["self","house","call"],tE,gO "letter" "Caller.letter" (fnIn (clsIn_ bd 2) 2),o48 P,o49 P,tE,nE,tS (nat_lit 237) ["self","number","told"],tE,gO "came" "Caller.came" (fnIn (clsIn_ bd 2) 3),o55 P,o56 P,tE,nE,tS (nat_lit 246) ["self"],tE,gO "asking" "Caller.asking" (fnIn (clsIn_ bd 2) 4),o62 P,o63 P,tE,nE,tS (nat_lit 253) ["self"],tE,gO "answers" "Caller.answers" (fnIn (clsIn_ bd 2) 5),o69 P,o70 P,tS (nat_lit 257) ["begun","closed","number","open_call"],o72 P,o73 P,{ cls:=Value.type "getset_descriptor",data:=Data.fields #[Value.str (Str.ofString "__dict__") 262,Value.ref 73,Value.builtin "function.__dict__",Value.builtin "function.__dict__#set"] },{ cls:=Value.type "getset_descriptor",data:=Data.fields #[Value.str (Str.ofString "__weakref__") 264,Value.ref 73,Value.builtin "ExceptionGroup.__weakref__",Value.none] },{ cls:=Value.type "super",data:=Data.fields #[Value.ref 73,Value.ref 73,Value.ref 73] },{ cls:=Value.type "builtin_function_or_method",data:=Data.fields #[Value.builtin "object.__init_subclass__",Value.ref 73] }]
noncomputable def S0 (w:World) (os:OsState):Shared:=⟨⟨⟨hp0 w.params⟩,{ }⟩,#[],{ },271,os⟩
noncomputable def d3v1 (P:Params):List DictEntry:=(d3v0 P) ++ [eR P "MoveError" (nat_lit 288) (nat_lit 87),eR P "BadWorld" (nat_lit 304) (nat_lit 100)]
noncomputable def o80 (P:Params):Obj:=dE (nat_lit 4) [eS P "__module__" (nat_lit 278) "movehouse.errors" (nat_lit 269),eS P "__qualname__" (nat_lit 280) "MoveError" (nat_lit 279),eV P "__firstlineno__" (nat_lit 282) (Value.int 33 281),eR P "__static_attributes__" (nat_lit 283) (nat_lit 85)]
noncomputable def o83 (P:Params):Obj:={ cls:=Value.type "code",data:=Data.fields #[Value.str (Str.ofString "MoveError") 273,Value.str (Str.ofString "MoveError") 274,Value.str (Str.ofString "/claim/cut.py") 275,Value.int 33 0,Value.int 0 0,Value.int 0 0,Value.int 0 0,Value.int 0 0,Value.ref 81,Value.bool false,Value.int 181 0,Value.ref 82,Value.none,Value.none,Value.none,Value.none,Value.int 276 0,Value.int 33 0,Value.str (Str.ofString "/claim/cut.py") 277] }
noncomputable def o86 (P:Params):Obj:=dE (nat_lit 3) [eS P "__module__" (nat_lit 278) "movehouse.errors" (nat_lit 269),eV P "__firstlineno__" (nat_lit 282) (Value.int 33 281),eR P "__static_attributes__" (nat_lit 283) (nat_lit 85),eR P "__weakref__" (nat_lit 285) (nat_lit 88),eV P "__doc__" (nat_lit 286) (Value.none)]
noncomputable def o93 (P:Params):Obj:=dE (nat_lit 4) [eS P "__module__" (nat_lit 296) "movehouse.errors" (nat_lit 269),eS P "__qualname__" (nat_lit 298) "BadWorld" (nat_lit 297),eV P "__firstlineno__" (nat_lit 300) (Value.int 35 299),eR P "__static_attributes__" (nat_lit 301) (nat_lit 98)]
noncomputable def o96 (P:Params):Obj:={ cls:=Value.type "code",data:=Data.fields #[Value.str (Str.ofString "BadWorld") 291,Value.str (Str.ofString "BadWorld") 292,Value.str (Str.ofString "/claim/cut.py") 293,Value.int 35 0,Value.int 0 0,Value.int 0 0,Value.int 0 0,Value.int 0 0,Value.ref 94,Value.bool false,Value.int 181 0,Value.ref 95,Value.none,Value.none,Value.none,Value.none,Value.int 294 0,Value.int 35 0,Value.str (Str.ofString "/claim/cut.py") 295] }
noncomputable def o99 (P:Params):Obj:=dE (nat_lit 2) [eS P "__module__" (nat_lit 296) "movehouse.errors" (nat_lit 269),eV P "__firstlineno__" (nat_lit 300) (Value.int 35 299),eR P "__static_attributes__" (nat_lit 301) (nat_lit 98),eV P "__doc__" (nat_lit 302) (Value.none)]
noncomputable def o100 (P:Params):Obj:={ cls:=Value.type "type",data:=Data.cls { name:=Str.ofString "BadWorld",bases:=[Value.ref 87],mro:=[Value.ref 100,Value.ref 87,Value.type "ValueError",Value.type "Exception",Value.type "BaseException",Value.type "object"],ns:=99,qualname:=Str.ofString "BadWorld" },slots:=#[some (Value.ref 91),none,some (Value.str (Str.ofString "BadWorld") 289),some (Value.str (Str.ofString "BadWorld") 297),some (Value.builtin "ValueError.__new__"),some (Value.bool true)] }
noncomputable def hp1 (P:Params):List Obj:=(((hp0 P).set 3 (dE (nat_lit 13) (d3v1 P))).set 12 (pO [(1,0,20),(5,0,27),(33,0,83),(35,0,96)])) ++ [{ cls:=Value.type "tuple",data:=Data.seq #[Value.type "ValueError"] },{ cls:=Value.type "builtin_function_or_method",data:=Data.fields #[Value.builtin "type.__prepare__",Value.type "type"] },o80 P,tE,nE,o83 P,{ cls:=Value.type "frame",slots:=#[some (Value.ref 83),some (Value.ref 3),some (Value.ref 80),none,some (Value.str (Str.ofString "movehouse.errors") 269),none,some (Value.ref 0)] },tE,o86 P,{ cls:=Value.type "type",data:=Data.cls { name:=Str.ofString "MoveError",bases:=[Value.type "ValueError"],mro:=[Value.ref 87,Value.type "ValueError",Value.type "Exception",Value.type "BaseException",Value.type "object"],ns:=86,qualname:=Str.ofString "MoveError",subclasses:=[Value.ref 100] },slots:=#[some (Value.ref 78),none,some (Value.str (Str.ofString "MoveError") 271),some (Value.str (Str.ofString "MoveError") 279),some (Value.builtin "ValueError.__new__"),some (Value.bool true)] },{ cls:=Value.type "getset_descriptor",data:=Data.fields #[Value.str (Str.ofString "__weakref__") 284,Value.ref 87,Value.builtin "ExceptionGroup.__weakref__",Value.none] },{ cls:=Value.type "super",data:=Data.fields #[Value.ref 87,Value.ref 87,Value.ref 87] },{ cls:=Value.type "builtin_function_or_method",data:=Data.fields #[Value.builtin "object.__init_subclass__",Value.ref 87] },{ cls:=Value.type "tuple",data:=Data.seq #[Value.ref 87] },{ cls:=Value.type "builtin_function_or_method",data:=Data.fields #[Value.builtin "type.__prepare__",Value.type "type"] },o93 P,tE,nE,o96 P,{ cls:=Value.type "frame",slots:=#[some (Value.ref 96),some (Value.ref 3),some (Value.ref 93),none,some (Value.str (Str.ofString "movehouse.errors") 269),none,some (Value.ref 0)] },tE,o99 P,o100 P,{ cls:=Value.type "super",data:=Data.fields #[Value.ref 100,Value.ref 100,Value.ref 100] },{ cls:=Value.type "builtin_function_or_method",data:=Data.fields #[Value.builtin "object.__init_subclass__",Value.ref 100] }]
noncomputable def S1 (w:World) (os:OsState):Shared:=⟨⟨⟨hp1 w.params⟩,{ }⟩,#[],{ },305,os⟩
noncomputable def d3v2 (P:Params):List DictEntry:=(d3v1 P) ++ [eR P "NoCaller" (nat_lit 320) (nat_lit 112),eR P "NoHouse" (nat_lit 336) (nat_lit 124)]
noncomputable def o105 (P:Params):Obj:=dE (nat_lit 4) [eS P "__module__" (nat_lit 312) "movehouse.errors" (nat_lit 269),eS P "__qualname__" (nat_lit 314) "NoCaller" (nat_lit 313),eV P "__firstlineno__" (nat_lit 316) (Value.int 37 315),eR P "__static_attributes__" (nat_lit 317) (nat_lit 110)]
noncomputable def o108 (P:Params):Obj:={ cls:=Value.type "code",data:=Data.fields #[Value.str (Str.ofString "NoCaller") 307,Value.str (Str.ofString "NoCaller") 308,Value.str (Str.ofString "/claim/cut.py") 309,Value.int 37 0,Value.int 0 0,Value.int 0 0,Value.int 0 0,Value.int 0 0,Value.ref 106,Value.bool false,Value.int 181 0,Value.ref 107,Value.none,Value.none,Value.none,Value.none,Value.int 310 0,Value.int 37 0,Value.str (Str.ofString "/claim/cut.py") 311] }
noncomputable def o111 (P:Params):Obj:=dE (nat_lit 2) [eS P "__module__" (nat_lit 312) "movehouse.errors" (nat_lit 269),eV P "__firstlineno__" (nat_lit 316) (Value.int 37 315),eR P "__static_attributes__" (nat_lit 317) (nat_lit 110),eV P "__doc__" (nat_lit 318) (Value.none)]
noncomputable def o112 (P:Params):Obj:={ cls:=Value.type "type",data:=Data.cls { name:=Str.ofString "NoCaller",bases:=[Value.ref 87],mro:=[Value.ref 112,Value.ref 87,Value.type "ValueError",Value.type "Exception",Value.type "BaseException",Value.type "object"],ns:=111,qualname:=Str.ofString "NoCaller" },slots:=#[some (Value.ref 103),none,some (Value.str (Str.ofString "NoCaller") 305),some (Value.str (Str.ofString "NoCaller") 313),some (Value.builtin "ValueError.__new__"),some (Value.bool true)] }
noncomputable def o117 (P:Params):Obj:=dE (nat_lit 4) [eS P "__module__" (nat_lit 328) "movehouse.errors" (nat_lit 269),eS P "__qualname__" (nat_lit 330) "NoHouse" (nat_lit 329),eV P "__firstlineno__" (nat_lit 332) (Value.int 39 331),eR P "__static_attributes__" (nat_lit 333) (nat_lit 122)]
noncomputable def o120 (P:Params):Obj:={ cls:=Value.type "code",data:=Data.fields #[Value.str (Str.ofString "NoHouse") 323,Value.str (Str.ofString "NoHouse") 324,Value.str (Str.ofString "/claim/cut.py") 325,Value.int 39 0,Value.int 0 0,Value.int 0 0,Value.int 0 0,Value.int 0 0,Value.ref 118,Value.bool false,Value.int 181 0,Value.ref 119,Value.none,Value.none,Value.none,Value.none,Value.int 326 0,Value.int 39 0,Value.str (Str.ofString "/claim/cut.py") 327] }
noncomputable def o123 (P:Params):Obj:=dE (nat_lit 2) [eS P "__module__" (nat_lit 328) "movehouse.errors" (nat_lit 269),eV P "__firstlineno__" (nat_lit 332) (Value.int 39 331),eR P "__static_attributes__" (nat_lit 333) (nat_lit 122),eV P "__doc__" (nat_lit 334) (Value.none)]
noncomputable def o124 (P:Params):Obj:={ cls:=Value.type "type",data:=Data.cls { name:=Str.ofString "NoHouse",bases:=[Value.ref 87],mro:=[Value.ref 124,Value.ref 87,Value.type "ValueError",Value.type "Exception",Value.type "BaseException",Value.type "object"],ns:=123,qualname:=Str.ofString "NoHouse" },slots:=#[some (Value.ref 115),none,some (Value.str (Str.ofString "NoHouse") 321),some (Value.str (Str.ofString "NoHouse") 329),some (Value.builtin "ValueError.__new__"),some (Value.bool true)] }
noncomputable def hp2 (P:Params):List Obj:=((((hp1 P).set 3 (dE (nat_lit 15) (d3v2 P))).set 12 (pO [(1,0,20),(5,0,27),(33,0,83),(35,0,96),(37,0,108),(39,0,120)])).set 87 ({ cls:=Value.type "type",data:=Data.cls { name:=Str.ofString "MoveError",bases:=[Value.type "ValueError"],mro:=[Value.ref 87,Value.type "ValueError",Value.type "Exception",Value.type "BaseException",Value.type "object"],ns:=86,qualname:=Str.ofString "MoveError",subclasses:=[Value.ref 100,Value.ref 112,Value.ref 124] },slots:=#[some (Value.ref 78),none,some (Value.str (Str.ofString "MoveError") 271),some (Value.str (Str.ofString "MoveError") 279),some (Value.builtin "ValueError.__new__"),some (Value.bool true)] })) ++ [{ cls:=Value.type "tuple",data:=Data.seq #[Value.ref 87] },{ cls:=Value.type "builtin_function_or_method",data:=Data.fields #[Value.builtin "type.__prepare__",Value.type "type"] },o105 P,tE,nE,o108 P,{ cls:=Value.type "frame",slots:=#[some (Value.ref 108),some (Value.ref 3),some (Value.ref 105),none,some (Value.str (Str.ofString "movehouse.errors") 269),none,some (Value.ref 0)] },tE,o111 P,o112 P,{ cls:=Value.type "super",data:=Data.fields #[Value.ref 112,Value.ref 112,Value.ref 112] },{ cls:=Value.type "builtin_function_or_method",data:=Data.fields #[Value.builtin "object.__init_subclass__",Value.ref 112] },{ cls:=Value.type "tuple",data:=Data.seq #[Value.ref 87] },{ cls:=Value.type "builtin_function_or_method",data:=Data.fields #[Value.builtin "type.__prepare__",Value.type "type"] },o117 P,tE,nE,o120 P,{ cls:=Value.type "frame",slots:=#[some (Value.ref 120),some (Value.ref 3),some (Value.ref 117),none,some (Value.str (Str.ofString "movehouse.errors") 269),none,some (Value.ref 0)] },tE,o123 P,o124 P,{ cls:=Value.type "super",data:=Data.fields #[Value.ref 124,Value.ref 124,Value.ref 124] },{ cls:=Value.type "builtin_function_or_method",data:=Data.fields #[Value.builtin "object.__init_subclass__",Value.ref 124] }]
noncomputable def S2 (w:World) (os:OsState):Shared:=⟨⟨⟨hp2 w.params⟩,{ }⟩,#[],{ },337,os⟩
noncomputable def d3v3 (P:Params):List DictEntry:=(d3v2 P) ++ [eR P "NoKey" (nat_lit 352) (nat_lit 136),eR P "BadWish" (nat_lit 368) (nat_lit 148)]
noncomputable def o129 (P:Params):Obj:=dE (nat_lit 4) [eS P "__module__" (nat_lit 344) "movehouse.errors" (nat_lit 269),eS P "__qualname__" (nat_lit 346) "NoKey" (nat_lit 345),eV P "__firstlineno__" (nat_lit 348) (Value.int 41 347),eR P "__static_attributes__" (nat_lit 349) (nat_lit 134)]
noncomputable def o132 (P:Params):Obj:={ cls:=Value.type "code",data:=Data.fields #[Value.str (Str.ofString "NoKey") 339,Value.str (Str.ofString "NoKey") 340,Value.str (Str.ofString "/claim/cut.py") 341,Value.int 41 0,Value.int 0 0,Value.int 0 0,Value.int 0 0,Value.int 0 0,Value.ref 130,Value.bool false,Value.int 181 0,Value.ref 131,Value.none,Value.none,Value.none,Value.none,Value.int 342 0,Value.int 41 0,Value.str (Str.ofString "/claim/cut.py") 343] }
noncomputable def o135 (P:Params):Obj:=dE (nat_lit 2) [eS P "__module__" (nat_lit 344) "movehouse.errors" (nat_lit 269),eV P "__firstlineno__" (nat_lit 348) (Value.int 41 347),eR P "__static_attributes__" (nat_lit 349) (nat_lit 134),eV P "__doc__" (nat_lit 350) (Value.none)]
noncomputable def o136 (P:Params):Obj:={ cls:=Value.type "type",data:=Data.cls { name:=Str.ofString "NoKey",bases:=[Value.ref 87],mro:=[Value.ref 136,Value.ref 87,Value.type "ValueError",Value.type "Exception",Value.type "BaseException",Value.type "object"],ns:=135,qualname:=Str.ofString "NoKey" },slots:=#[some (Value.ref 127),none,some (Value.str (Str.ofString "NoKey") 337),some (Value.str (Str.ofString "NoKey") 345),some (Value.builtin "ValueError.__new__"),some (Value.bool true)] }
noncomputable def o141 (P:Params):Obj:=dE (nat_lit 4) [eS P "__module__" (nat_lit 360) "movehouse.errors" (nat_lit 269),eS P "__qualname__" (nat_lit 362) "BadWish" (nat_lit 361),eV P "__firstlineno__" (nat_lit 364) (Value.int 43 363),eR P "__static_attributes__" (nat_lit 365) (nat_lit 146)]
noncomputable def o144 (P:Params):Obj:={ cls:=Value.type "code",data:=Data.fields #[Value.str (Str.ofString "BadWish") 355,Value.str (Str.ofString "BadWish") 356,Value.str (Str.ofString "/claim/cut.py") 357,Value.int 43 0,Value.int 0 0,Value.int 0 0,Value.int 0 0,Value.int 0 0,Value.ref 142,Value.bool false,Value.int 181 0,Value.ref 143,Value.none,Value.none,Value.none,Value.none,Value.int 358 0,Value.int 43 0,Value.str (Str.ofString "/claim/cut.py") 359] }
noncomputable def o147 (P:Params):Obj:=dE (nat_lit 2) [eS P "__module__" (nat_lit 360) "movehouse.errors" (nat_lit 269),eV P "__firstlineno__" (nat_lit 364) (Value.int 43 363),eR P "__static_attributes__" (nat_lit 365) (nat_lit 146),eV P "__doc__" (nat_lit 366) (Value.none)]
noncomputable def o148 (P:Params):Obj:={ cls:=Value.type "type",data:=Data.cls { name:=Str.ofString "BadWish",bases:=[Value.ref 87],mro:=[Value.ref 148,Value.ref 87,Value.type "ValueError",Value.type "Exception",Value.type "BaseException",Value.type "object"],ns:=147,qualname:=Str.ofString "BadWish" },slots:=#[some (Value.ref 139),none,some (Value.str (Str.ofString "BadWish") 353),some (Value.str (Str.ofString "BadWish") 361),some (Value.builtin "ValueError.__new__"),some (Value.bool true)] }
noncomputable def hp3 (P:Params):List Obj:=((((hp2 P).set 3 (dE (nat_lit 17) (d3v3 P))).set 12 (pO [(1,0,20),(5,0,27),(33,0,83),(35,0,96),(37,0,108),(39,0,120),(41,0,132),(43,0,144)])).set 87 ({ cls:=Value.type "type",data:=Data.cls { name:=Str.ofString "MoveError",bases:=[Value.type "ValueError"],mro:=[Value.ref 87,Value.type "ValueError",Value.type "Exception",Value.type "BaseException",Value.type "object"],ns:=86,qualname:=Str.ofString "MoveError",subclasses:=[Value.ref 100,Value.ref 112,Value.ref 124,Value.ref 136,Value.ref 148] },slots:=#[some (Value.ref 78),none,some (Value.str (Str.ofString "MoveError") 271),some (Value.str (Str.ofString "MoveError") 279),some (Value.builtin "ValueError.__new__"),some (Value.bool true)] })) ++ [{ cls:=Value.type "tuple",data:=Data.seq #[Value.ref 87] },{ cls:=Value.type "builtin_function_or_method",data:=Data.fields #[Value.builtin "type.__prepare__",Value.type "type"] },o129 P,tE,nE,o132 P,{ cls:=Value.type "frame",slots:=#[some (Value.ref 132),some (Value.ref 3),some (Value.ref 129),none,some (Value.str (Str.ofString "movehouse.errors") 269),none,some (Value.ref 0)] },tE,o135 P,o136 P,{ cls:=Value.type "super",data:=Data.fields #[Value.ref 136,Value.ref 136,Value.ref 136] },{ cls:=Value.type "builtin_function_or_method",data:=Data.fields #[Value.builtin "object.__init_subclass__",Value.ref 136] },{ cls:=Value.type "tuple",data:=Data.seq #[Value.ref 87] },{ cls:=Value.type "builtin_function_or_method",data:=Data.fields #[Value.builtin "type.__prepare__",Value.type "type"] },o141 P,tE,nE,o144 P,{ cls:=Value.type "frame",slots:=#[some (Value.ref 144),some (Value.ref 3),some (Value.ref 141),none,some (Value.str (Str.ofString "movehouse.errors") 269),none,some (Value.ref 0)] },tE,o147 P,o148 P,{ cls:=Value.type "super",data:=Data.fields #[Value.ref 148,Value.ref 148,Value.ref 148] },{ cls:=Value.type "builtin_function_or_method",data:=Data.fields #[Value.builtin "object.__init_subclass__",Value.ref 148] }]
noncomputable def S3 (w:World) (os:OsState):Shared:=⟨⟨⟨hp3 w.params⟩,{ }⟩,#[],{ },369,os⟩
noncomputable def d3v4 (P:Params):List DictEntry:=(d3v3 P) ++ [eR P "Busy" (nat_lit 384) (nat_lit 160),eR P "Idle" (nat_lit 400) (nat_lit 172)]
noncomputable def o153 (P:Params):Obj:=dE (nat_lit 4) [eS P "__module__" (nat_lit 376) "movehouse.errors" (nat_lit 269),eS P "__qualname__" (nat_lit 378) "Busy" (nat_lit 377),eV P "__firstlineno__" (nat_lit 380) (Value.int 45 379),eR P "__static_attributes__" (nat_lit 381) (nat_lit 158)]
noncomputable def o156 (P:Params):Obj:={ cls:=Value.type "code",data:=Data.fields #[Value.str (Str.ofString "Busy") 371,Value.str (Str.ofString "Busy") 372,Value.str (Str.ofString "/claim/cut.py") 373,Value.int 45 0,Value.int 0 0,Value.int 0 0,Value.int 0 0,Value.int 0 0,Value.ref 154,Value.bool false,Value.int 181 0,Value.ref 155,Value.none,Value.none,Value.none,Value.none,Value.int 374 0,Value.int 45 0,Value.str (Str.ofString "/claim/cut.py") 375] }
noncomputable def o159 (P:Params):Obj:=dE (nat_lit 2) [eS P "__module__" (nat_lit 376) "movehouse.errors" (nat_lit 269),eV P "__firstlineno__" (nat_lit 380) (Value.int 45 379),eR P "__static_attributes__" (nat_lit 381) (nat_lit 158),eV P "__doc__" (nat_lit 382) (Value.none)]
noncomputable def o160 (P:Params):Obj:={ cls:=Value.type "type",data:=Data.cls { name:=Str.ofString "Busy",bases:=[Value.ref 87],mro:=[Value.ref 160,Value.ref 87,Value.type "ValueError",Value.type "Exception",Value.type "BaseException",Value.type "object"],ns:=159,qualname:=Str.ofString "Busy" },slots:=#[some (Value.ref 151),none,some (Value.str (Str.ofString "Busy") 369),some (Value.str (Str.ofString "Busy") 377),some (Value.builtin "ValueError.__new__"),some (Value.bool true)] }
noncomputable def o165 (P:Params):Obj:=dE (nat_lit 4) [eS P "__module__" (nat_lit 392) "movehouse.errors" (nat_lit 269),eS P "__qualname__" (nat_lit 394) "Idle" (nat_lit 393),eV P "__firstlineno__" (nat_lit 396) (Value.int 47 395),eR P "__static_attributes__" (nat_lit 397) (nat_lit 170)]
noncomputable def o168 (P:Params):Obj:={ cls:=Value.type "code",data:=Data.fields #[Value.str (Str.ofString "Idle") 387,Value.str (Str.ofString "Idle") 388,Value.str (Str.ofString "/claim/cut.py") 389,Value.int 47 0,Value.int 0 0,Value.int 0 0,Value.int 0 0,Value.int 0 0,Value.ref 166,Value.bool false,Value.int 181 0,Value.ref 167,Value.none,Value.none,Value.none,Value.none,Value.int 390 0,Value.int 47 0,Value.str (Str.ofString "/claim/cut.py") 391] }
noncomputable def o171 (P:Params):Obj:=dE (nat_lit 2) [eS P "__module__" (nat_lit 392) "movehouse.errors" (nat_lit 269),eV P "__firstlineno__" (nat_lit 396) (Value.int 47 395),eR P "__static_attributes__" (nat_lit 397) (nat_lit 170),eV P "__doc__" (nat_lit 398) (Value.none)]
noncomputable def o172 (P:Params):Obj:={ cls:=Value.type "type",data:=Data.cls { name:=Str.ofString "Idle",bases:=[Value.ref 87],mro:=[Value.ref 172,Value.ref 87,Value.type "ValueError",Value.type "Exception",Value.type "BaseException",Value.type "object"],ns:=171,qualname:=Str.ofString "Idle" },slots:=#[some (Value.ref 163),none,some (Value.str (Str.ofString "Idle") 385),some (Value.str (Str.ofString "Idle") 393),some (Value.builtin "ValueError.__new__"),some (Value.bool true)] }
noncomputable def hp4 (P:Params):List Obj:=((((hp3 P).set 3 (dE (nat_lit 19) (d3v4 P))).set 12 (pO [(1,0,20),(5,0,27),(33,0,83),(35,0,96),(37,0,108),(39,0,120),(41,0,132),(43,0,144),(45,0,156),(47,0,168)])).set 87 ({ cls:=Value.type "type",data:=Data.cls { name:=Str.ofString "MoveError",bases:=[Value.type "ValueError"],mro:=[Value.ref 87,Value.type "ValueError",Value.type "Exception",Value.type "BaseException",Value.type "object"],ns:=86,qualname:=Str.ofString "MoveError",subclasses:=[Value.ref 100,Value.ref 112,Value.ref 124,Value.ref 136,Value.ref 148,Value.ref 160,Value.ref 172] },slots:=#[some (Value.ref 78),none,some (Value.str (Str.ofString "MoveError") 271),some (Value.str (Str.ofString "MoveError") 279),some (Value.builtin "ValueError.__new__"),some (Value.bool true)] })) ++ [{ cls:=Value.type "tuple",data:=Data.seq #[Value.ref 87] },{ cls:=Value.type "builtin_function_or_method",data:=Data.fields #[Value.builtin "type.__prepare__",Value.type "type"] },o153 P,tE,nE,o156 P,{ cls:=Value.type "frame",slots:=#[some (Value.ref 156),some (Value.ref 3),some (Value.ref 153),none,some (Value.str (Str.ofString "movehouse.errors") 269),none,some (Value.ref 0)] },tE,o159 P,o160 P,{ cls:=Value.type "super",data:=Data.fields #[Value.ref 160,Value.ref 160,Value.ref 160] },{ cls:=Value.type "builtin_function_or_method",data:=Data.fields #[Value.builtin "object.__init_subclass__",Value.ref 160] },{ cls:=Value.type "tuple",data:=Data.seq #[Value.ref 87] },{ cls:=Value.type "builtin_function_or_method",data:=Data.fields #[Value.builtin "type.__prepare__",Value.type "type"] },o165 P,tE,nE,o168 P,{ cls:=Value.type "frame",slots:=#[some (Value.ref 168),some (Value.ref 3),some (Value.ref 165),none,some (Value.str (Str.ofString "movehouse.errors") 269),none,some (Value.ref 0)] },tE,o171 P,o172 P,{ cls:=Value.type "super",data:=Data.fields #[Value.ref 172,Value.ref 172,Value.ref 172] },{ cls:=Value.type "builtin_function_or_method",data:=Data.fields #[Value.builtin "object.__init_subclass__",Value.ref 172] }]
noncomputable def S4 (w:World) (os:OsState):Shared:=⟨⟨⟨hp4 w.params⟩,{ }⟩,#[],{ },401,os⟩
noncomputable def d3v5 (P:Params):List DictEntry:=((d3v4 P).set 0 (eS P "__name__" (nat_lit 165) "movehouse.desk" (nat_lit 433))) ++ [eR P "NotHere" (nat_lit 416) (nat_lit 184),eR P "NoLetter" (nat_lit 432) (nat_lit 196),eV P "GREATEST" (nat_lit 438) (Value.int 1000000000000000000000000000000 437)]
noncomputable def o87 (P:Params):Obj:={ cls:=Value.type "type",data:=Data.cls { name:=Str.ofString "MoveError",bases:=[Value.type "ValueError"],mro:=[Value.ref 87,Value.type "ValueError",Value.type "Exception",Value.type "BaseException",Value.type "object"],ns:=86,qualname:=Str.ofString "MoveError",subclasses:=[Value.ref 100,Value.ref 112,Value.ref 124,Value.ref 136,Value.ref 148,Value.ref 160,Value.ref 172,Value.ref 184,Value.ref 196] },slots:=#[some (Value.ref 78),none,some (Value.str (Str.ofString "MoveError") 271),some (Value.str (Str.ofString "MoveError") 279),some (Value.builtin "ValueError.__new__"),some (Value.bool true)] }
noncomputable def o177 (P:Params):Obj:=dE (nat_lit 4) [eS P "__module__" (nat_lit 408) "movehouse.errors" (nat_lit 269),eS P "__qualname__" (nat_lit 410) "NotHere" (nat_lit 409),eV P "__firstlineno__" (nat_lit 412) (Value.int 49 411),eR P "__static_attributes__" (nat_lit 413) (nat_lit 182)]
noncomputable def o180 (P:Params):Obj:={ cls:=Value.type "code",data:=Data.fields #[Value.str (Str.ofString "NotHere") 403,Value.str (Str.ofString "NotHere") 404,Value.str (Str.ofString "/claim/cut.py") 405,Value.int 49 0,Value.int 0 0,Value.int 0 0,Value.int 0 0,Value.int 0 0,Value.ref 178,Value.bool false,Value.int 181 0,Value.ref 179,Value.none,Value.none,Value.none,Value.none,Value.int 406 0,Value.int 49 0,Value.str (Str.ofString "/claim/cut.py") 407] }
noncomputable def o183 (P:Params):Obj:=dE (nat_lit 2) [eS P "__module__" (nat_lit 408) "movehouse.errors" (nat_lit 269),eV P "__firstlineno__" (nat_lit 412) (Value.int 49 411),eR P "__static_attributes__" (nat_lit 413) (nat_lit 182),eV P "__doc__" (nat_lit 414) (Value.none)]
noncomputable def o184 (P:Params):Obj:={ cls:=Value.type "type",data:=Data.cls { name:=Str.ofString "NotHere",bases:=[Value.ref 87],mro:=[Value.ref 184,Value.ref 87,Value.type "ValueError",Value.type "Exception",Value.type "BaseException",Value.type "object"],ns:=183,qualname:=Str.ofString "NotHere" },slots:=#[some (Value.ref 175),none,some (Value.str (Str.ofString "NotHere") 401),some (Value.str (Str.ofString "NotHere") 409),some (Value.builtin "ValueError.__new__"),some (Value.bool true)] }
noncomputable def o189 (P:Params):Obj:=dE (nat_lit 4) [eS P "__module__" (nat_lit 424) "movehouse.errors" (nat_lit 269),eS P "__qualname__" (nat_lit 426) "NoLetter" (nat_lit 425),eV P "__firstlineno__" (nat_lit 428) (Value.int 51 427),eR P "__static_attributes__" (nat_lit 429) (nat_lit 194)]
noncomputable def o192 (P:Params):Obj:={ cls:=Value.type "code",data:=Data.fields #[Value.str (Str.ofString "NoLetter") 419,Value.str (Str.ofString "NoLetter") 420,Value.str (Str.ofString "/claim/cut.py") 421,Value.int 51 0,Value.int 0 0,Value.int 0 0,Value.int 0 0,Value.int 0 0,Value.ref 190,Value.bool false,Value.int 181 0,Value.ref 191,Value.none,Value.none,Value.none,Value.none,Value.int 422 0,Value.int 51 0,Value.str (Str.ofString "/claim/cut.py") 423] }
noncomputable def o195 (P:Params):Obj:=dE (nat_lit 2) [eS P "__module__" (nat_lit 424) "movehouse.errors" (nat_lit 269),eV P "__firstlineno__" (nat_lit 428) (Value.int 51 427),eR P "__static_attributes__" (nat_lit 429) (nat_lit 194),eV P "__doc__" (nat_lit 430) (Value.none)]
noncomputable def o196 (P:Params):Obj:={ cls:=Value.type "type",data:=Data.cls { name:=Str.ofString "NoLetter",bases:=[Value.ref 87],mro:=[Value.ref 196,Value.ref 87,Value.type "ValueError",Value.type "Exception",Value.type "BaseException",Value.type "object"],ns:=195,qualname:=Str.ofString "NoLetter" },slots:=#[some (Value.ref 187),none,some (Value.str (Str.ofString "NoLetter") 417),some (Value.str (Str.ofString "NoLetter") 425),some (Value.builtin "ValueError.__new__"),some (Value.bool true)] }
noncomputable def hp5 (P:Params):List Obj:=((((hp4 P).set 3 (dE (nat_lit 22) (d3v5 P))).set 12 (pO [(1,0,20),(5,0,27),(33,0,83),(35,0,96),(37,0,108),(39,0,120),(41,0,132),(43,0,144),(45,0,156),(47,0,168),(49,0,180),(51,0,192)])).set 87 (o87 P)) ++ [{ cls:=Value.type "tuple",data:=Data.seq #[Value.ref 87] },{ cls:=Value.type "builtin_function_or_method",data:=Data.fields #[Value.builtin "type.__prepare__",Value.type "type"] },o177 P,tE,nE,o180 P,{ cls:=Value.type "frame",slots:=#[some (Value.ref 180),some (Value.ref 3),some (Value.ref 177),none,some (Value.str (Str.ofString "movehouse.errors") 269),none,some (Value.ref 0)] },tE,o183 P,o184 P,{ cls:=Value.type "super",data:=Data.fields #[Value.ref 184,Value.ref 184,Value.ref 184] },{ cls:=Value.type "builtin_function_or_method",data:=Data.fields #[Value.builtin "object.__init_subclass__",Value.ref 184] },{ cls:=Value.type "tuple",data:=Data.seq #[Value.ref 87] },{ cls:=Value.type "builtin_function_or_method",data:=Data.fields #[Value.builtin "type.__prepare__",Value.type "type"] },o189 P,tE,nE,o192 P,{ cls:=Value.type "frame",slots:=#[some (Value.ref 192),some (Value.ref 3),some (Value.ref 189),none,some (Value.str (Str.ofString "movehouse.errors") 269),none,some (Value.ref 0)] },tE,o195 P,o196 P,{ cls:=Value.type "super",data:=Data.fields #[Value.ref 196,Value.ref 196,Value.ref 196] },{ cls:=Value.type "builtin_function_or_method",data:=Data.fields #[Value.builtin "object.__init_subclass__",Value.ref 196] }]
noncomputable def S5 (w:World) (os:OsState):Shared:=⟨⟨⟨hp5 w.params⟩,{ }⟩,#[],{ },439,os⟩
noncomputable def d3v6 (P:Params):List DictEntry:=((d3v5 P).set 0 (eS P "__name__" (nat_lit 165) "movehouse.houses" (nat_lit 461))) ++ [eR P "is_whole" (nat_lit 445) (nat_lit 205),eR P "need_wish" (nat_lit 452) (nat_lit 212),eR P "done" (nat_lit 460) (nat_lit 219)]
noncomputable def o204 (P:Params):Obj:=cO "is_whole" "is_whole" (nat_lit 439) (nat_lit 199) (nat_lit 443) 55 1
noncomputable def o205 (P:Params):Obj:=fO "is_whole" "is_whole" (fnIn bd 16) "movehouse.desk" (nat_lit 433) (nat_lit 204)
noncomputable def o211 (P:Params):Obj:=cO "need_wish" "need_wish" (nat_lit 446) (nat_lit 206) (nat_lit 450) 57 1
noncomputable def o212 (P:Params):Obj:=fO "need_wish" "need_wish" (fnIn bd 17) "movehouse.desk" (nat_lit 433) (nat_lit 211)
noncomputable def o218 (P:Params):Obj:=cO "done" "done" (nat_lit 453) (nat_lit 213) (nat_lit 458) 66 2
noncomputable def o219 (P:Params):Obj:=fO "done" "done" (fnIn bd 18) "movehouse.desk" (nat_lit 433) (nat_lit 218)
noncomputable def hp6 (P:Params):List Obj:=(((hp5 P).set 3 (dE (nat_lit 25) (d3v6 P))).set 12 (pO [(1,0,20),(5,0,27),(33,0,83),(35,0,96),(37,0,108),(39,0,120),(41,0,132),(43,0,144),(45,0,156),(47,0,168),(49,0,180),(51,0,192),(55,0,204),(57,0,211),(66,0,218)])) ++ [tE,nE,tS (nat_lit 442) ["thing"],tE,gO "is_whole" "is_whole" (fnIn bd 16),o204 P,o205 P,tE,nE,tS (nat_lit 449) ["wish"],tE,gO "need_wish" "need_wish" (fnIn bd 17),o211 P,o212 P,tE,nE,tS (nat_lit 456) ["amount","wish"],tE,gO "done" "done" (fnIn bd 18),o218 P,o219 P]
noncomputable def S6 (w:World) (os:OsState):Shared:=⟨⟨⟨hp6 w.params⟩,{ }⟩,#[],{ },463,os⟩
noncomputable def d3v7 (P:Params):List DictEntry:=(d3v6 P) ++ [eR P "House" (nat_lit 564) (nat_lit 293)]
noncomputable def o222 (P:Params):Obj:=dE (nat_lit 14) [eS P "__module__" (nat_lit 470) "movehouse.houses" (nat_lit 461),eS P "__qualname__" (nat_lit 472) "House" (nat_lit 471),eV P "__firstlineno__" (nat_lit 474) (Value.int 73 473),eR P "__init__" (nat_lit 484) (nat_lit 233),eR P "has" (nat_lit 492) (nat_lit 240),eR P "owes" (nat_lit 498) (nat_lit 245),eR P "came" (nat_lit 507) (nat_lit 252),eR P "called" (nat_lit 513) (nat_lit 257),eR P "parcel" (nat_lit 522) (nat_lit 264),eR P "move" (nat_lit 530) (nat_lit 271),eR P "write" (nat_lit 538) (nat_lit 278),eR P "sleep" (nat_lit 545) (nat_lit 285),eR P "nudge" (nat_lit 551) (nat_lit 290),eR P "__static_attributes__" (nat_lit 557) (nat_lit 291)]
noncomputable def o225 (P:Params):Obj:={ cls:=Value.type "code",data:=Data.fields #[Value.str (Str.ofString "House") 465,Value.str (Str.ofString "House") 466,Value.str (Str.ofString "/claim/cut.py") 467,Value.int 73 0,Value.int 0 0,Value.int 0 0,Value.int 0 0,Value.int 0 0,Value.ref 223,Value.bool false,Value.int 181 0,Value.ref 224,Value.none,Value.none,Value.none,Value.none,Value.int 468 0,Value.int 73 0,Value.str (Str.ofString "/claim/cut.py") 469] }
noncomputable def o232 (P:Params):Obj:=cO "__init__" "House.__init__" (nat_lit 475) (nat_lit 227) (nat_lit 482) 75 3
noncomputable def o233 (P:Params):Obj:=fO "__init__" "House.__init__" (fnIn (clsIn_ bd 20) 0) "movehouse.houses" (nat_lit 461) (nat_lit 232)
noncomputable def o239 (P:Params):Obj:=cO "has" "House.has" (nat_lit 485) (nat_lit 234) (nat_lit 490) 86 2
noncomputable def o240 (P:Params):Obj:=fO "has" "House.has" (fnIn (clsIn_ bd 20) 1) "movehouse.houses" (nat_lit 461) (nat_lit 239)
noncomputable def o244 (P:Params):Obj:=kO "owes" "House.owes" (nat_lit 493) (nat_lit 241) (nat_lit 496) 89 1
noncomputable def o245 (P:Params):Obj:=fO "owes" "House.owes" (fnIn (clsIn_ bd 20) 2) "movehouse.houses" (nat_lit 461) (nat_lit 244)
noncomputable def o251 (P:Params):Obj:=cO "came" "House.came" (nat_lit 499) (nat_lit 246) (nat_lit 505) 92 2
noncomputable def o252 (P:Params):Obj:=fO "came" "House.came" (fnIn (clsIn_ bd 20) 3) "movehouse.houses" (nat_lit 461) (nat_lit 251)
noncomputable def o256 (P:Params):Obj:=kO "called" "House.called" (nat_lit 508) (nat_lit 253) (nat_lit 511) 105 5
noncomputable def o257 (P:Params):Obj:=fO "called" "House.called" (fnIn (clsIn_ bd 20) 4) "movehouse.houses" (nat_lit 461) (nat_lit 256)
noncomputable def o263 (P:Params):Obj:=cO "parcel" "House.parcel" (nat_lit 514) (nat_lit 258) (nat_lit 520) 119 3
noncomputable def o264 (P:Params):Obj:=fO "parcel" "House.parcel" (fnIn (clsIn_ bd 20) 5) "movehouse.houses" (nat_lit 461) (nat_lit 263)
noncomputable def o270 (P:Params):Obj:=cO "move" "House.move" (nat_lit 523) (nat_lit 265) (nat_lit 528) 122 2
noncomputable def o271 (P:Params):Obj:=fO "move" "House.move" (fnIn (clsIn_ bd 20) 6) "movehouse.houses" (nat_lit 461) (nat_lit 270)
noncomputable def o277 (P:Params):Obj:=cO "write" "House.write" (nat_lit 531) (nat_lit 272) (nat_lit 536) 125 1
noncomputable def o278 (P:Params):Obj:=fO "write" "House.write" (fnIn (clsIn_ bd 20) 7) "movehouse.houses" (nat_lit 461) (nat_lit 277)
noncomputable def o284 (P:Params):Obj:=cO "sleep" "House.sleep" (nat_lit 539) (nat_lit 279) (nat_lit 543) 132 1
noncomputable def o285 (P:Params):Obj:=fO "sleep" "House.sleep" (fnIn (clsIn_ bd 20) 8) "movehouse.houses" (nat_lit 461) (nat_lit 284)
noncomputable def o289 (P:Params):Obj:=kO "nudge" "House.nudge" (nat_lit 546) (nat_lit 286) (nat_lit 549) 135 1
noncomputable def o290 (P:Params):Obj:=fO "nudge" "House.nudge" (fnIn (clsIn_ bd 20) 9) "movehouse.houses" (nat_lit 461) (nat_lit 289)
noncomputable def o292 (P:Params):Obj:=dE (nat_lit 4) [eS P "__module__" (nat_lit 470) "movehouse.houses" (nat_lit 461),eV P "__firstlineno__" (nat_lit 474) (Value.int 73 473),eR P "__init__" (nat_lit 484) (nat_lit 233),eR P "has" (nat_lit 492) (nat_lit 240),eR P "owes" (nat_lit 498) (nat_lit 245),eR P "came" (nat_lit 507) (nat_lit 252),eR P "called" (nat_lit 513) (nat_lit 257),eR P "parcel" (nat_lit 522) (nat_lit 264),eR P "move" (nat_lit 530) (nat_lit 271),eR P "write" (nat_lit 538) (nat_lit 278),eR P "sleep" (nat_lit 545) (nat_lit 285),eR P "nudge" (nat_lit 551) (nat_lit 290),eR P "__static_attributes__" (nat_lit 557) (nat_lit 291),eR P "__dict__" (nat_lit 559) (nat_lit 294),eR P "__weakref__" (nat_lit 561) (nat_lit 295),eV P "__doc__" (nat_lit 562) (Value.none)]
noncomputable def o293 (P:Params):Obj:={ cls:=Value.type "type",data:=Data.cls { name:=Str.ofString "House",bases:=[Value.type "object"],mro:=[Value.ref 293,Value.type "object"],ns:=292,qualname:=Str.ofString "House" },slots:=#[none,none,some (Value.str (Str.ofString "House") 463),some (Value.str (Str.ofString "House") 471),some (Value.builtin "object.__new__"),some (Value.bool true)] }
noncomputable def hp7 (P:Params):List Obj:=(((hp6 P).set 3 (dE (nat_lit 26) (d3v7 P))).set 12 (pO [(1,0,20),(5,0,27),(33,0,83),(35,0,96),(37,0,108),(39,0,120),(41,0,132),(43,0,144),(45,0,156),(47,0,168),(49,0,180),(51,0,192),(55,0,204),(57,0,211),(66,0,218),(73,0,225)])) ++ [tE,{ cls:=Value.type "builtin_function_or_method",data:=Data.fields #[Value.builtin "type.__prepare__",Value.type "type"] },o222 P,tE,pO [(75,4,232),(86,4,239),(89,4,244),(92,4,251),(105,4,256),(119,4,263),(122,4,270),(125,4,277),(132,4,284),(135,4,289)],o225 P,{ cls:=Value.type "frame",slots:=#[some (Value.ref 225),some (Value.ref 3),some (Value.ref 222),none,some (Value.str (Str.ofString "movehouse.houses") 461),none,some (Value.ref 0)] },tE,nE,tS (nat_lit 478) ["self","number","keys","key"],tE,gO "__init__" "House.__init__" (fnIn (clsIn_ bd 20) 0),o232 P,o233 P,tE,nE,tS (nat_lit 488) ["self","key"],tE,gO "has" "House.has" (fnIn (clsIn_ bd 20) 1),o239 P,o240 P,tE,nE,gO "owes" "House.owes" (fnIn (clsIn_ bd 20) 2),o244 P,o245 P,tE,nE,tS (nat_lit 502) ["self","letter","one"],tE,gO "came" "House.came" (fnIn (clsIn_ bd 20) 3),o251 P,o252 P,tE,nE,gO "called" "House.called" (fnIn (clsIn_ bd 20) 4),o256 P,o257 P,tE,nE,tS (nat_lit 517) ["self","key","one"],tE,gO "parcel" "House.parcel" (fnIn (clsIn_ bd 20) 5),o263 P,o264 P,tE,nE,tS (nat_lit 526) ["self","key"],tE,gO "move" "House.move" (fnIn (clsIn_ bd 20) 6),o270 P,o271 P,tE,nE,tS (nat_lit 534) ["self","found"],tE,gO "write" "House.write" (fnIn (clsIn_ bd 20) 7),o277 P,o278 P,tE,nE,tS (nat_lit 542) ["self"],tE,gO "sleep" "House.sleep" (fnIn (clsIn_ bd 20) 8),o284 P,o285 P,tE,nE,gO "nudge" "House.nudge" (fnIn (clsIn_ bd 20) 9),o289 P,o290 P,tS (nat_lit 552) ["fresh","known","laid","number","written"],o292 P,o293 P,{ cls:=Value.type "getset_descriptor",data:=Data.fields #[Value.str (Str.ofString "__dict__") 558,Value.ref 293,Value.builtin "function.__dict__",Value.builtin "function.__dict__#set"] },{ cls:=Value.type "getset_descriptor",data:=Data.fields #[Value.str (Str.ofString "__weakref__") 560,Value.ref 293,Value.builtin "ExceptionGroup.__weakref__",Value.none] },{ cls:=Value.type "super",data:=Data.fields #[Value.ref 293,Value.ref 293,Value.ref 293] },{ cls:=Value.type "builtin_function_or_method",data:=Data.fields #[Value.builtin "object.__init_subclass__",Value.ref 293] }]
noncomputable def S7 (w:World) (os:OsState):Shared:=⟨⟨⟨hp7 w.params⟩,{ }⟩,#[],{ },565,os⟩
noncomputable def d3v8 (P:Params):List DictEntry:=((d3v7 P).set 0 (eS P "__name__" (nat_lit 165) "movehouse.world" (nat_lit 565))) ++ [eS P "LETTERS" (nat_lit 568) "abcdefghijklmnopqrstuvwxyz" (nat_lit 567),eV P "MOST" (nat_lit 570) (Value.int 6 569),eV P "LONGEST" (nat_lit 572) (Value.int 8 571),eR P "is_key" (nat_lit 580) (nat_lit 304),eR P "need_world" (nat_lit 589) (nat_lit 311)]
noncomputable def o303 (P:Params):Obj:=cO "is_key" "is_key" (nat_lit 573) (nat_lit 298) (nat_lit 578) 141 1
noncomputable def o304 (P:Params):Obj:=fO "is_key" "is_key" (fnIn bd 25) "movehouse.world" (nat_lit 565) (nat_lit 303)
noncomputable def o310 (P:Params):Obj:=cO "need_world" "need_world" (nat_lit 581) (nat_lit 305) (nat_lit 587) 148 2
noncomputable def o311 (P:Params):Obj:=fO "need_world" "need_world" (fnIn bd 26) "movehouse.world" (nat_lit 565) (nat_lit 310)
noncomputable def hp8 (P:Params):List Obj:=(((hp7 P).set 3 (dE (nat_lit 31) (d3v8 P))).set 12 (pO [(1,0,20),(5,0,27),(33,0,83),(35,0,96),(37,0,108),(39,0,120),(41,0,132),(43,0,144),(45,0,156),(47,0,168),(49,0,180),(51,0,192),(55,0,204),(57,0,211),(66,0,218),(73,0,225),(141,0,303),(148,0,310)])) ++ [tE,nE,tS (nat_lit 576) ["thing","sign"],tE,gO "is_key" "is_key" (fnIn bd 25),o303 P,o304 P,tE,nE,tS (nat_lit 584) ["keys","callers","k"],tE,gO "need_world" "need_world" (fnIn bd 26),o310 P,o311 P]
noncomputable def S8 (w:World) (os:OsState):Shared:=⟨⟨⟨hp8 w.params⟩,{ }⟩,#[],{ },590,os⟩
noncomputable def d3v9 (P:Params):List DictEntry:=(d3v8 P) ++ [eR P "World" (nat_lit 820) (nat_lit 494)]
noncomputable def o314 (P:Params):Obj:=dE (nat_lit 29) [eS P "__module__" (nat_lit 597) "movehouse.world" (nat_lit 565),eS P "__qualname__" (nat_lit 599) "World" (nat_lit 598),eV P "__firstlineno__" (nat_lit 601) (Value.int 156 600),eR P "__init__" (nat_lit 607) (nat_lit 323),eR P "need_caller" (nat_lit 615) (nat_lit 330),eR P "need_house" (nat_lit 623) (nat_lit 337),eR P "need_key" (nat_lit 631) (nat_lit 344),eR P "need_place" (nat_lit 639) (nat_lit 351),eR P "call" (nat_lit 651) (nat_lit 358),eR P "again" (nat_lit 660) (nat_lit 365),eR P "letters" (nat_lit 667) (nat_lit 372),eR P "brought" (nat_lit 675) (nat_lit 379),eR P "hand" (nat_lit 683) (nat_lit 386),eR P "twice" (nat_lit 691) (nat_lit 393),eR P "lose" (nat_lit 699) (nat_lit 400),eR P "home" (nat_lit 708) (nat_lit 407),eR P "move" (nat_lit 716) (nat_lit 414),eR P "has" (nat_lit 725) (nat_lit 421),eR P "write" (nat_lit 734) (nat_lit 428),eR P "sleep" (nat_lit 742) (nat_lit 435),eR P "nudge" (nat_lit 750) (nat_lit 442),eR P "ledger" (nat_lit 757) (nat_lit 449),eR P "asking" (nat_lit 765) (nat_lit 456),eR P "answers" (nat_lit 773) (nat_lit 463),eR P "owes" (nat_lit 781) (nat_lit 470),eR P "is_settled" (nat_lit 789) (nat_lit 477),eR P "one_round" (nat_lit 799) (nat_lit 484),eR P "settle" (nat_lit 807) (nat_lit 491),eR P "__static_attributes__" (nat_lit 813) (nat_lit 492)]
noncomputable def o317 (P:Params):Obj:={ cls:=Value.type "code",data:=Data.fields #[Value.str (Str.ofString "World") 592,Value.str (Str.ofString "World") 593,Value.str (Str.ofString "/claim/cut.py") 594,Value.int 156 0,Value.int 0 0,Value.int 0 0,Value.int 0 0,Value.int 0 0,Value.ref 315,Value.bool false,Value.int 181 0,Value.ref 316,Value.none,Value.none,Value.none,Value.none,Value.int 595 0,Value.int 156 0,Value.str (Str.ofString "/claim/cut.py") 596] }
noncomputable def o322 (P:Params):Obj:=kO "__init__" "World.__init__" (nat_lit 602) (nat_lit 319) (nat_lit 605) 158 3
noncomputable def o323 (P:Params):Obj:=fO "__init__" "World.__init__" (fnIn (clsIn_ bd 27) 0) "movehouse.world" (nat_lit 565) (nat_lit 322)
noncomputable def o329 (P:Params):Obj:=cO "need_caller" "World.need_caller" (nat_lit 608) (nat_lit 324) (nat_lit 613) 166 2
noncomputable def o330 (P:Params):Obj:=fO "need_caller" "World.need_caller" (fnIn (clsIn_ bd 27) 1) "movehouse.world" (nat_lit 565) (nat_lit 329)
noncomputable def o336 (P:Params):Obj:=cO "need_house" "World.need_house" (nat_lit 616) (nat_lit 331) (nat_lit 621) 170 2
noncomputable def o337 (P:Params):Obj:=fO "need_house" "World.need_house" (fnIn (clsIn_ bd 27) 2) "movehouse.world" (nat_lit 565) (nat_lit 336)
noncomputable def o343 (P:Params):Obj:=cO "need_key" "World.need_key" (nat_lit 624) (nat_lit 338) (nat_lit 629) 174 2
noncomputable def o344 (P:Params):Obj:=fO "need_key" "World.need_key" (fnIn (clsIn_ bd 27) 3) "movehouse.world" (nat_lit 565) (nat_lit 343)
noncomputable def o350 (P:Params):Obj:=cO "need_place" "World.need_place" (nat_lit 632) (nat_lit 345) (nat_lit 637) 178 2
noncomputable def o351 (P:Params):Obj:=fO "need_place" "World.need_place" (fnIn (clsIn_ bd 27) 4) "movehouse.world" (nat_lit 565) (nat_lit 350)
noncomputable def o357 (P:Params):Obj:=cO "call" "World.call" (nat_lit 640) (nat_lit 352) (nat_lit 649) 182 5
noncomputable def o358 (P:Params):Obj:=fO "call" "World.call" (fnIn (clsIn_ bd 27) 5) "movehouse.world" (nat_lit 565) (nat_lit 357)
noncomputable def o364 (P:Params):Obj:=cO "again" "World.again" (nat_lit 652) (nat_lit 359) (nat_lit 658) 193 3
noncomputable def o365 (P:Params):Obj:=fO "again" "World.again" (fnIn (clsIn_ bd 27) 6) "movehouse.world" (nat_lit 565) (nat_lit 364)
noncomputable def o371 (P:Params):Obj:=cO "letters" "World.letters" (nat_lit 661) (nat_lit 366) (nat_lit 665) 196 1
noncomputable def o372 (P:Params):Obj:=fO "letters" "World.letters" (fnIn (clsIn_ bd 27) 7) "movehouse.world" (nat_lit 565) (nat_lit 371)
noncomputable def o378 (P:Params):Obj:=cO "brought" "World.brought" (nat_lit 668) (nat_lit 373) (nat_lit 673) 199 2
noncomputable def o379 (P:Params):Obj:=fO "brought" "World.brought" (fnIn (clsIn_ bd 27) 8) "movehouse.world" (nat_lit 565) (nat_lit 378)
noncomputable def o385 (P:Params):Obj:=cO "hand" "World.hand" (nat_lit 676) (nat_lit 380) (nat_lit 681) 205 2
noncomputable def o386 (P:Params):Obj:=fO "hand" "World.hand" (fnIn (clsIn_ bd 27) 9) "movehouse.world" (nat_lit 565) (nat_lit 385)
noncomputable def o392 (P:Params):Obj:=cO "twice" "World.twice" (nat_lit 684) (nat_lit 387) (nat_lit 689) 209 2
noncomputable def o393 (P:Params):Obj:=fO "twice" "World.twice" (fnIn (clsIn_ bd 27) 10) "movehouse.world" (nat_lit 565) (nat_lit 392)
noncomputable def o399 (P:Params):Obj:=cO "lose" "World.lose" (nat_lit 692) (nat_lit 394) (nat_lit 697) 213 2
noncomputable def o400 (P:Params):Obj:=fO "lose" "World.lose" (fnIn (clsIn_ bd 27) 11) "movehouse.world" (nat_lit 565) (nat_lit 399)
noncomputable def o406 (P:Params):Obj:=cO "home" "World.home" (nat_lit 700) (nat_lit 401) (nat_lit 706) 216 2
noncomputable def o407 (P:Params):Obj:=fO "home" "World.home" (fnIn (clsIn_ bd 27) 12) "movehouse.world" (nat_lit 565) (nat_lit 406)
noncomputable def o413 (P:Params):Obj:=cO "move" "World.move" (nat_lit 709) (nat_lit 408) (nat_lit 714) 223 2
noncomputable def o414 (P:Params):Obj:=fO "move" "World.move" (fnIn (clsIn_ bd 27) 13) "movehouse.world" (nat_lit 565) (nat_lit 413)
noncomputable def o420 (P:Params):Obj:=cO "has" "World.has" (nat_lit 717) (nat_lit 415) (nat_lit 723) 226 3
noncomputable def o421 (P:Params):Obj:=fO "has" "World.has" (fnIn (clsIn_ bd 27) 14) "movehouse.world" (nat_lit 565) (nat_lit 420)
noncomputable def o427 (P:Params):Obj:=cO "write" "World.write" (nat_lit 726) (nat_lit 422) (nat_lit 732) 231 2
noncomputable def o428 (P:Params):Obj:=fO "write" "World.write" (fnIn (clsIn_ bd 27) 15) "movehouse.world" (nat_lit 565) (nat_lit 427)
noncomputable def o434 (P:Params):Obj:=cO "sleep" "World.sleep" (nat_lit 735) (nat_lit 429) (nat_lit 740) 237 2
noncomputable def o435 (P:Params):Obj:=fO "sleep" "World.sleep" (fnIn (clsIn_ bd 27) 16) "movehouse.world" (nat_lit 565) (nat_lit 434)
noncomputable def o441 (P:Params):Obj:=cO "nudge" "World.nudge" (nat_lit 743) (nat_lit 436) (nat_lit 748) 240 2
noncomputable def o442 (P:Params):Obj:=fO "nudge" "World.nudge" (fnIn (clsIn_ bd 27) 17) "movehouse.world" (nat_lit 565) (nat_lit 441)
noncomputable def o448 (P:Params):Obj:=cO "ledger" "World.ledger" (nat_lit 751) (nat_lit 443) (nat_lit 755) 244 1
noncomputable def o449 (P:Params):Obj:=fO "ledger" "World.ledger" (fnIn (clsIn_ bd 27) 18) "movehouse.world" (nat_lit 565) (nat_lit 448)
noncomputable def o455 (P:Params):Obj:=cO "asking" "World.asking" (nat_lit 758) (nat_lit 450) (nat_lit 763) 247 2
noncomputable def o456 (P:Params):Obj:=fO "asking" "World.asking" (fnIn (clsIn_ bd 27) 19) "movehouse.world" (nat_lit 565) (nat_lit 455)
noncomputable def o462 (P:Params):Obj:=cO "answers" "World.answers" (nat_lit 766) (nat_lit 457) (nat_lit 771) 251 2
noncomputable def o463 (P:Params):Obj:=fO "answers" "World.answers" (fnIn (clsIn_ bd 27) 20) "movehouse.world" (nat_lit 565) (nat_lit 462)
noncomputable def o469 (P:Params):Obj:=cO "owes" "World.owes" (nat_lit 774) (nat_lit 464) (nat_lit 779) 255 2
noncomputable def o470 (P:Params):Obj:=fO "owes" "World.owes" (fnIn (clsIn_ bd 27) 21) "movehouse.world" (nat_lit 565) (nat_lit 469)
noncomputable def o476 (P:Params):Obj:=cO "is_settled" "World.is_settled" (nat_lit 782) (nat_lit 471) (nat_lit 787) 259 1
noncomputable def o477 (P:Params):Obj:=fO "is_settled" "World.is_settled" (fnIn (clsIn_ bd 27) 22) "movehouse.world" (nat_lit 565) (nat_lit 476)
noncomputable def o483 (P:Params):Obj:=cO "one_round" "World.one_round" (nat_lit 790) (nat_lit 478) (nat_lit 797) 265 1
noncomputable def o484 (P:Params):Obj:=fO "one_round" "World.one_round" (fnIn (clsIn_ bd 27) 23) "movehouse.world" (nat_lit 565) (nat_lit 483)
noncomputable def o490 (P:Params):Obj:=cO "settle" "World.settle" (nat_lit 800) (nat_lit 485) (nat_lit 805) 277 1
noncomputable def o491 (P:Params):Obj:=fO "settle" "World.settle" (fnIn (clsIn_ bd 27) 24) "movehouse.world" (nat_lit 565) (nat_lit 490)
noncomputable def o493 (P:Params):Obj:=dE (nat_lit 4) [eS P "__module__" (nat_lit 597) "movehouse.world" (nat_lit 565),eV P "__firstlineno__" (nat_lit 601) (Value.int 156 600),eR P "__init__" (nat_lit 607) (nat_lit 323),eR P "need_caller" (nat_lit 615) (nat_lit 330),eR P "need_house" (nat_lit 623) (nat_lit 337),eR P "need_key" (nat_lit 631) (nat_lit 344),eR P "need_place" (nat_lit 639) (nat_lit 351),eR P "call" (nat_lit 651) (nat_lit 358),eR P "again" (nat_lit 660) (nat_lit 365),eR P "letters" (nat_lit 667) (nat_lit 372),eR P "brought" (nat_lit 675) (nat_lit 379),eR P "hand" (nat_lit 683) (nat_lit 386),eR P "twice" (nat_lit 691) (nat_lit 393),eR P "lose" (nat_lit 699) (nat_lit 400),eR P "home" (nat_lit 708) (nat_lit 407),eR P "move" (nat_lit 716) (nat_lit 414),eR P "has" (nat_lit 725) (nat_lit 421),eR P "write" (nat_lit 734) (nat_lit 428),eR P "sleep" (nat_lit 742) (nat_lit 435),eR P "nudge" (nat_lit 750) (nat_lit 442),eR P "ledger" (nat_lit 757) (nat_lit 449),eR P "asking" (nat_lit 765) (nat_lit 456),eR P "answers" (nat_lit 773) (nat_lit 463),eR P "owes" (nat_lit 781) (nat_lit 470),eR P "is_settled" (nat_lit 789) (nat_lit 477),eR P "one_round" (nat_lit 799) (nat_lit 484),eR P "settle" (nat_lit 807) (nat_lit 491),eR P "__static_attributes__" (nat_lit 813) (nat_lit 492),eR P "__dict__" (nat_lit 815) (nat_lit 495),eR P "__weakref__" (nat_lit 817) (nat_lit 496),eV P "__doc__" (nat_lit 818) (Value.none)]
noncomputable def o494 (P:Params):Obj:={ cls:=Value.type "type",data:=Data.cls { name:=Str.ofString "World",bases:=[Value.type "object"],mro:=[Value.ref 494,Value.type "object"],ns:=493,qualname:=Str.ofString "World" },slots:=#[none,none,some (Value.str (Str.ofString "World") 590),some (Value.str (Str.ofString "World") 598),some (Value.builtin "object.__new__"),some (Value.bool true)] }
noncomputable def hp9 (P:Params):List Obj:=(((hp8 P).set 3 (dE (nat_lit 32) (d3v9 P))).set 12 (pO [(1,0,20),(5,0,27),(33,0,83),(35,0,96),(37,0,108),(39,0,120),(41,0,132),(43,0,144),(45,0,156),(47,0,168),(49,0,180),(51,0,192),(55,0,204),(57,0,211),(66,0,218),(73,0,225),(141,0,303),(148,0,310),(156,0,317)])) ++ [tE,{ cls:=Value.type "builtin_function_or_method",data:=Data.fields #[Value.builtin "type.__prepare__",Value.type "type"] },o314 P,tE,pO [(158,4,322),(166,4,329),(170,4,336),(174,4,343),(178,4,350),(182,4,357),(193,4,364),(196,4,371),(199,4,378),(205,4,385),(209,4,392),(213,4,399),(216,4,406),(223,4,413),(226,4,420),(231,4,427),(237,4,434),(240,4,441),(244,4,448),(247,4,455),(251,4,462),(255,4,469),(259,4,476),(265,4,483),(277,4,490)],o317 P,{ cls:=Value.type "frame",slots:=#[some (Value.ref 317),some (Value.ref 3),some (Value.ref 314),none,some (Value.str (Str.ofString "movehouse.world") 565),none,some (Value.ref 0)] },tE,nE,gO "__init__" "World.__init__" (fnIn (clsIn_ bd 27) 0),o322 P,o323 P,tE,nE,tS (nat_lit 611) ["self","caller"],tE,gO "need_caller" "World.need_caller" (fnIn (clsIn_ bd 27) 1),o329 P,o330 P,tE,nE,tS (nat_lit 619) ["self","house"],tE,gO "need_house" "World.need_house" (fnIn (clsIn_ bd 27) 2),o336 P,o337 P,tE,nE,tS (nat_lit 627) ["self","key"],tE,gO "need_key" "World.need_key" (fnIn (clsIn_ bd 27) 3),o343 P,o344 P,tE,nE,tS (nat_lit 635) ["self","place"],tE,gO "need_place" "World.need_place" (fnIn (clsIn_ bd 27) 4),o350 P,o351 P,tE,nE,tS (nat_lit 643) ["self","caller","house","key","wish","number"],tE,gO "call" "World.call" (fnIn (clsIn_ bd 27) 5),o357 P,o358 P,tE,nE,tS (nat_lit 655) ["self","caller","house"],tE,gO "again" "World.again" (fnIn (clsIn_ bd 27) 6),o364 P,o365 P,tE,nE,tS (nat_lit 664) ["self"],tE,gO "letters" "World.letters" (fnIn (clsIn_ bd 27) 7),o371 P,o372 P,tE,nE,tS (nat_lit 671) ["self","letter"],tE,gO "brought" "World.brought" (fnIn (clsIn_ bd 27) 8),o378 P,o379 P,tE,nE,tS (nat_lit 679) ["self","place"],tE,gO "hand" "World.hand" (fnIn (clsIn_ bd 27) 9),o385 P,o386 P,tE,nE,tS (nat_lit 687) ["self","place"],tE,gO "twice" "World.twice" (fnIn (clsIn_ bd 27) 10),o392 P,o393 P,tE,nE,tS (nat_lit 695) ["self","place"],tE,gO "lose" "World.lose" (fnIn (clsIn_ bd 27) 11),o399 P,o400 P,tE,nE,tS (nat_lit 703) ["self","key","house"],tE,gO "home" "World.home" (fnIn (clsIn_ bd 27) 12),o406 P,o407 P,tE,nE,tS (nat_lit 712) ["self","key"],tE,gO "move" "World.move" (fnIn (clsIn_ bd 27) 13),o413 P,o414 P,tE,nE,tS (nat_lit 720) ["self","house","key"],tE,gO "has" "World.has" (fnIn (clsIn_ bd 27) 14),o420 P,o421 P,tE,nE,tS (nat_lit 729) ["self","house","found"],tE,gO "write" "World.write" (fnIn (clsIn_ bd 27) 15),o427 P,o428 P,tE,nE,tS (nat_lit 738) ["self","house"],tE,gO "sleep" "World.sleep" (fnIn (clsIn_ bd 27) 16),o434 P,o435 P,tE,nE,tS (nat_lit 746) ["self","house"],tE,gO "nudge" "World.nudge" (fnIn (clsIn_ bd 27) 17),o441 P,o442 P,tE,nE,tS (nat_lit 754) ["self"],tE,gO "ledger" "World.ledger" (fnIn (clsIn_ bd 27) 18),o448 P,o449 P,tE,nE,tS (nat_lit 761) ["self","caller"],tE,gO "asking" "World.asking" (fnIn (clsIn_ bd 27) 19),o455 P,o456 P,tE,nE,tS (nat_lit 769) ["self","caller"],tE,gO "answers" "World.answers" (fnIn (clsIn_ bd 27) 20),o462 P,o463 P,tE,nE,tS (nat_lit 777) ["self","house"],tE,gO "owes" "World.owes" (fnIn (clsIn_ bd 27) 21),o469 P,o470 P,tE,nE,tS (nat_lit 785) ["self","caller"],tE,gO "is_settled" "World.is_settled" (fnIn (clsIn_ bd 27) 22),o476 P,o477 P,tE,nE,tS (nat_lit 793) ["self","house","caller","k"],tE,gO "one_round" "World.one_round" (fnIn (clsIn_ bd 27) 23),o483 P,o484 P,tE,nE,tS (nat_lit 803) ["self","rounds"],tE,gO "settle" "World.settle" (fnIn (clsIn_ bd 27) 24),o490 P,o491 P,tS (nat_lit 808) ["all_keys","callers","houses","post","rows"],o493 P,o494 P,{ cls:=Value.type "getset_descriptor",data:=Data.fields #[Value.str (Str.ofString "__dict__") 814,Value.ref 494,Value.builtin "function.__dict__",Value.builtin "function.__dict__#set"] },{ cls:=Value.type "getset_descriptor",data:=Data.fields #[Value.str (Str.ofString "__weakref__") 816,Value.ref 494,Value.builtin "ExceptionGroup.__weakref__",Value.none] },{ cls:=Value.type "super",data:=Data.fields #[Value.ref 494,Value.ref 494,Value.ref 494] },{ cls:=Value.type "builtin_function_or_method",data:=Data.fields #[Value.builtin "object.__init_subclass__",Value.ref 494] }]
noncomputable def S9 (w:World) (os:OsState):Shared:=⟨⟨⟨hp9 w.params⟩,{ }⟩,#[],{ },821,os⟩
noncomputable def d3v10 (P:Params):List DictEntry:=((d3v9 P).set 0 (eS P "__name__" (nat_lit 165) "law_uf030007_08" (nat_lit 821))) ++ [eR P "_law_cell_at" (nat_lit 830) (nat_lit 505),eR P "_law_whole" (nat_lit 837) (nat_lit 512),eR P "_law_kinds" (nat_lit 845) (nat_lit 519),eR P "_law_refused" (nat_lit 854) (nat_lit 526),eR P "_law_names" (nat_lit 860) (nat_lit 531),eR P "_law_odd" (nat_lit 871) (nat_lit 538),eR P "_law_good" (nat_lit 877) (nat_lit 543),eR P "_law_fresh" (nat_lit 889) (nat_lit 550),eR P "_law_no_key" (nat_lit 897) (nat_lit 557),eR P "law" (nat_lit 911) (nat_lit 564)]
noncomputable def o3 (P:Params):Obj:=dE (nat_lit 42) (d3v10 P)
noncomputable def o504 (P:Params):Obj:=cO "_law_cell_at" "_law_cell_at" (nat_lit 823) (nat_lit 499) (nat_lit 828) 284 2
noncomputable def o505 (P:Params):Obj:=fO "_law_cell_at" "_law_cell_at" (fnIn bd 29) "law_uf030007_08" (nat_lit 821) (nat_lit 504)
noncomputable def o511 (P:Params):Obj:=cO "_law_whole" "_law_whole" (nat_lit 831) (nat_lit 506) (nat_lit 835) 288 1
noncomputable def o512 (P:Params):Obj:=fO "_law_whole" "_law_whole" (fnIn bd 30) "law_uf030007_08" (nat_lit 821) (nat_lit 511)
noncomputable def o518 (P:Params):Obj:=cO "_law_kinds" "_law_kinds" (nat_lit 838) (nat_lit 513) (nat_lit 843) 290 1
noncomputable def o519 (P:Params):Obj:=fO "_law_kinds" "_law_kinds" (fnIn bd 31) "law_uf030007_08" (nat_lit 821) (nat_lit 518)
noncomputable def o525 (P:Params):Obj:=cO "_law_refused" "_law_refused" (nat_lit 846) (nat_lit 520) (nat_lit 852) 294 2
noncomputable def o526 (P:Params):Obj:=fO "_law_refused" "_law_refused" (fnIn bd 32) "law_uf030007_08" (nat_lit 821) (nat_lit 525)
noncomputable def o530 (P:Params):Obj:=kO "_law_names" "_law_names" (nat_lit 855) (nat_lit 527) (nat_lit 858) 300 1
noncomputable def o531 (P:Params):Obj:=fO "_law_names" "_law_names" (fnIn bd 33) "law_uf030007_08" (nat_lit 821) (nat_lit 530)
noncomputable def o537 (P:Params):Obj:=cO "_law_odd" "_law_odd" (nat_lit 861) (nat_lit 532) (nat_lit 869) 307 2
noncomputable def o538 (P:Params):Obj:=fO "_law_odd" "_law_odd" (fnIn bd 34) "law_uf030007_08" (nat_lit 821) (nat_lit 537)
noncomputable def o542 (P:Params):Obj:=kO "_law_good" "_law_good" (nat_lit 872) (nat_lit 539) (nat_lit 875) 314 2
noncomputable def o543 (P:Params):Obj:=fO "_law_good" "_law_good" (fnIn bd 35) "law_uf030007_08" (nat_lit 821) (nat_lit 542)
noncomputable def o549 (P:Params):Obj:=cO "_law_fresh" "_law_fresh" (nat_lit 878) (nat_lit 544) (nat_lit 887) 323 3
noncomputable def o550 (P:Params):Obj:=fO "_law_fresh" "_law_fresh" (fnIn bd 36) "law_uf030007_08" (nat_lit 821) (nat_lit 549)
noncomputable def o556 (P:Params):Obj:=cO "_law_no_key" "_law_no_key" (nat_lit 890) (nat_lit 551) (nat_lit 895) 336 2
noncomputable def o557 (P:Params):Obj:=fO "_law_no_key" "_law_no_key" (fnIn bd 37) "law_uf030007_08" (nat_lit 821) (nat_lit 556)
noncomputable def o563 (P:Params):Obj:=cO "law" "law" (nat_lit 898) (nat_lit 558) (nat_lit 909) 344 1
noncomputable def o564 (P:Params):Obj:=fO "law" "law" (fnIn bd 38) "law_uf030007_08" (nat_lit 821) (nat_lit 563)
noncomputable def hp10 (P:Params):List Obj:=(((hp9 P).set 3 (o3 P)).set 12 (pO [(1,0,20),(5,0,27),(33,0,83),(35,0,96),(37,0,108),(39,0,120),(41,0,132),(43,0,144),(45,0,156),(47,0,168),(49,0,180),(51,0,192),(55,0,204),(57,0,211),(66,0,218),(73,0,225),(141,0,303),(148,0,310),(156,0,317),(284,0,504),(288,0,511),(290,0,518),(294,0,525),(300,0,530),(307,0,537),(314,0,542),(323,0,549),(336,0,556),(344,0,563)])) ++ [tE,nE,tS (nat_lit 826) ["_law_script","_law_k"],tE,gO "_law_cell_at" "_law_cell_at" (fnIn bd 29),o504 P,o505 P,tE,nE,tS (nat_lit 834) ["_law_found"],tE,gO "_law_whole" "_law_whole" (fnIn bd 30),o511 P,o512 P,tE,nE,tS (nat_lit 841) ["_law_e","_law_some"],tE,gO "_law_kinds" "_law_kinds" (fnIn bd 31),o518 P,o519 P,tE,nE,tS (nat_lit 849) ["_law_keys","_law_callers","_law_e"],tE,gO "_law_refused" "_law_refused" (fnIn bd 32),o525 P,o526 P,tE,nE,gO "_law_names" "_law_names" (fnIn bd 33),o530 P,o531 P,tE,nE,tS (nat_lit 864) ["_law_cell","_law_keys","_law_some","_law_sign","_law_odd_here"],tE,gO "_law_odd" "_law_odd" (fnIn bd 34),o537 P,o538 P,tE,nE,gO "_law_good" "_law_good" (fnIn bd 35),o542 P,o543 P,tE,nE,tS (nat_lit 881) ["_law_world","_law_keys","_law_callers","_law_key","_law_caller","_law_rounds"],tE,gO "_law_fresh" "_law_fresh" (fnIn bd 36),o549 P,o550 P,tE,nE,tS (nat_lit 893) ["_law_world","_law_key"],tE,gO "_law_no_key" "_law_no_key" (fnIn bd 37),o556 P,o557 P,tE,nE,tS (nat_lit 901) ["_law_script","_law_keys","_law_way","_law_cell","_law_callers","_law_far","_law_handed","_law_world"],tE,gO "law" "law" (fnIn bd 38),o563 P,o564 P]
noncomputable def S10 (w:World) (os:OsState):Shared:=⟨⟨⟨hp10 w.params⟩,{ }⟩,#[],{ },912,os⟩
noncomputable def hpf (P:Params):List Obj:=(hp10 P)
noncomputable def Sf (w:World) (os:OsState):Shared:=⟨⟨⟨hpf w.params⟩,{ }⟩,#[],{ },912,os⟩
noncomputable def K (P:Params):Frag :=
 [(2,boot_o_2 P),(3,o3 P),(13,o13 P),(20,o20 P),(21,o21 P),(24,o24 P),(27,o27 P),(34,o34 P),(35,o35 P),(41,o41 P),(42,o42 P),(48,o48 P),(49,o49 P),(55,o55 P),(56,o56 P),(62,o62 P),(63,o63 P),(69,o69 P),(70,o70 P),(72,o72 P),(73,o73 P),(80,o80 P),(83,o83 P),(86,o86 P),(87,o87 P),(93,o93 P),(96,o96 P),(99,o99 P),(100,o100 P),(105,o105 P),(108,o108 P),(111,o111 P),(112,o112 P),(117,o117 P),(120,o120 P),(123,o123 P),(124,o124 P),(129,o129 P),(132,o132 P),(135,o135 P),(136,o136 P),(141,o141 P),(144,o144 P),(147,o147 P),(148,o148 P),(153,o153 P),(156,o156 P),(159,o159 P),(160,o160 P),(165,o165 P),(168,o168 P),(171,o171 P),(172,o172 P),(177,o177 P),(180,o180 P),(183,o183 P),(184,o184 P),(189,o189 P),(192,o192 P),(195,o195 P),(196,o196 P),(204,o204 P),(205,o205 P),(211,o211 P),(212,o212 P),(218,o218 P),(219,o219 P),(222,o222 P),(225,o225 P),(232,o232 P),(233,o233 P),(239,o239 P),(240,o240 P),(244,o244 P),(245,o245 P),(251,o251 P),(252,o252 P),(256,o256 P),(257,o257 P),(263,o263 P),(264,o264 P),(270,o270 P),(271,o271 P),(277,o277 P),(278,o278 P),(284,o284 P),(285,o285 P),(289,o289 P),(290,o290 P),(292,o292 P),(293,o293 P),(303,o303 P),(304,o304 P),(310,o310 P),(311,o311 P),(314,o314 P),(317,o317 P),(322,o322 P),(323,o323 P),(329,o329 P),(330,o330 P),(336,o336 P),(337,o337 P),(343,o343 P),(344,o344 P),(350,o350 P),(351,o351 P),(357,o357 P),(358,o358 P),(364,o364 P),(365,o365 P),(371,o371 P),(372,o372 P),(378,o378 P),(379,o379 P),(385,o385 P),(386,o386 P),(392,o392 P),(393,o393 P),(399,o399 P),(400,o400 P),(406,o406 P),(407,o407 P),(413,o413 P),(414,o414 P),(420,o420 P),(421,o421 P),(427,o427 P),(428,o428 P),(434,o434 P),(435,o435 P),(441,o441 P),(442,o442 P),(448,o448 P),(449,o449 P),(455,o455 P),(456,o456 P),(462,o462 P),(463,o463 P),(469,o469 P),(470,o470 P),(476,o476 P),(477,o477 P),(483,o483 P),(484,o484 P),(490,o490 P),(491,o491 P),(493,o493 P),(494,o494 P),(504,o504 P),(505,o505 P),(511,o511 P),(512,o512 P),(518,o518 P),(519,o519 P),(525,o525 P),(526,o526 P),(530,o530 P),(531,o531 P),(537,o537 P),(538,o538 P),(542,o542 P),(543,o543 P),(549,o549 P),(550,o550 P),(556,o556 P),(557,o557 P),(563,o563 P),(564,o564 P)]
noncomputable def asL:List Addr:=[2,3,13,20,21,24,27,34,35,41,42,48,49,55,56,62,63,69,70,72,73,80,83,86,87,93,96,99,100,105,108,111,112,117,120,123,124,129,132,135,136,141,144,147,148,153,156,159,160,165,168,171,172,177,180,183,184,189,192,195,196,204,205,211,212,218,219,222,225,232,233,239,240,244,245,251,252,256,257,263,264,270,271,277,278,284,285,289,290,292,293,303,304,310,311,314,317,322,323,329,330,336,337,343,344,350,351,357,358,364,365,371,372,378,379,385,386,392,393,399,400,406,407,413,414,420,421,427,428,434,435,441,442,448,449,455,456,462,463,469,470,476,477,483,484,490,491,493,494,504,505,511,512,518,519,525,526,530,531,537,538,542,543,549,550,556,557,563,564]
noncomputable def H:Hook:=kHook K asL (fun _=>by kernel_rfl)
theorem t_pre (w:World) (os:OsState):topGo treeTable p w 11 (some (Value.ref 6)) 12 ⟨boot_heap w.params,#[],boot_drawn,boot_toks,os⟩ (topStub p)=some (Sa w os,⟨denote treeTable cd,cd,{ line:=0,col:=0,endLine:=0,endCol:=0 },[topFrame q]⟩):=by kernel_rfl
theorem t_blk (w:World) (os:OsState):segRun treeTable p w 11 (some (Value.ref 6)) 1 1 (Sa w os) (blockOf r0 env cd { line:=0,col:=0,endLine:=0,endCol:=0 } [topFrame q])=some (.next,Sb w os,cd,{ line:=0,col:=0,endLine:=0,endCol:=0 }):=by kernel_rfl
theorem t0 (w:World) (os:OsState):segRun treeTable p w 11 (some (Value.ref 6)) 1 434 (Sb w os) (piecesOf l0 env cd { line:=0,col:=0,endLine:=0,endCol:=0 } [topFrame q])=some (.next,S0 w os,cd,{ line:=32,col:=0,endLine:=32,endCol:=8 }):=by kernel_rfl
theorem t1 (w:World) (os:OsState):segRun treeTable p w 11 (some (Value.ref 6)) 1 400 (S0 w os) (piecesOf l1 env cd { line:=32,col:=0,endLine:=32,endCol:=8 } [topFrame q])=some (.next,S1 w os,cd,{ line:=35,col:=0,endLine:=36,endCol:=8 }):=by kernel_rfl
theorem t2 (w:World) (os:OsState):segRun treeTable p w 11 (some (Value.ref 6)) 1 427 (S1 w os) (piecesOf l2 env cd { line:=35,col:=0,endLine:=36,endCol:=8 } [topFrame q])=some (.next,S2 w os,cd,{ line:=39,col:=0,endLine:=40,endCol:=8 }):=by kernel_rfl
theorem t3 (w:World) (os:OsState):segRun treeTable p w 11 (some (Value.ref 6)) 1 427 (S2 w os) (piecesOf l3 env cd { line:=39,col:=0,endLine:=40,endCol:=8 } [topFrame q])=some (.next,S3 w os,cd,{ line:=43,col:=0,endLine:=44,endCol:=8 }):=by kernel_rfl
theorem t4 (w:World) (os:OsState):segRun treeTable p w 11 (some (Value.ref 6)) 1 427 (S3 w os) (piecesOf l4 env cd { line:=43,col:=0,endLine:=44,endCol:=8 } [topFrame q])=some (.next,S4 w os,cd,{ line:=47,col:=0,endLine:=48,endCol:=8 }):=by kernel_rfl
theorem t5 (w:World) (os:OsState):segRun treeTable p w 11 (some (Value.ref 6)) 1 451 (S4 w os) (piecesOf l5 env cd { line:=47,col:=0,endLine:=48,endCol:=8 } [topFrame q])=some (.next,S5 w os,cd,{ line:=54,col:=0,endLine:=54,endCol:=8 }):=by kernel_rfl
theorem t6 (w:World) (os:OsState):segRun treeTable p w 11 (some (Value.ref 6)) 1 98 (S5 w os) (piecesOf l6 env cd { line:=54,col:=0,endLine:=54,endCol:=8 } [topFrame q])=some (.next,S6 w os,cd,{ line:=72,col:=0,endLine:=72,endCol:=8 }):=by kernel_rfl
theorem t7 (w:World) (os:OsState):segRun treeTable p w 11 (some (Value.ref 6)) 1 506 (S6 w os) (piecesOf l7 env cd { line:=72,col:=0,endLine:=72,endCol:=8 } [topFrame q])=some (.next,S7 w os,cd,{ line:=73,col:=0,endLine:=136,endCol:=110 }):=by kernel_rfl
theorem t8 (w:World) (os:OsState):segRun treeTable p w 11 (some (Value.ref 6)) 1 98 (S7 w os) (piecesOf l8 env cd { line:=73,col:=0,endLine:=136,endCol:=110 } [topFrame q])=some (.next,S8 w os,cd,{ line:=148,col:=0,endLine:=155,endCol:=51 }):=by kernel_rfl
theorem t9 (w:World) (os:OsState):segRun treeTable p w 11 (some (Value.ref 6)) 1 999 (S8 w os) (piecesOf l9 env cd { line:=148,col:=0,endLine:=155,endCol:=51 } [topFrame q])=some (.next,S9 w os,cd,{ line:=156,col:=0,endLine:=282,endCol:=21 }):=by kernel_rfl
theorem t10 (w:World) (os:OsState):segRun treeTable p w 11 (some (Value.ref 6)) 1 315 (S9 w os) (piecesOf l10 env cd { line:=156,col:=0,endLine:=282,endCol:=21 } [topFrame q])=some (.next,S10 w os,cd,{ line:=344,col:=0,endLine:=364,endCol:=95 }):=by kernel_rfl
theorem t_fin (w:World) (os:OsState):topRun treeTable p w 11 (some (Value.ref 6)) 2 (S10 w os) ⟨doneF .next,cd,{ line:=344,col:=0,endLine:=364,endCol:=95 },[topFrame q]⟩=some (Sf w os):=by kernel_rfl
theorem t_run (w:World) (os:OsState):topRun treeTable p w 11 (some (Value.ref 6)) (12 + (1 + (434 + (400 + (427 + (427 + (427 + (451 + (98 + (506 + (98 + (999 + (315 + (2)))))))))))))) ⟨boot_heap w.params,#[],boot_drawn,boot_toks,os⟩ (topStub p)=some (Sf w os) :=
 go_top (t_pre w os) (piece_block (t_blk w os) (piece_app (l:=l0) (rest:=r1) (t0 w os) (piece_app (l:=l1) (rest:=r2) (t1 w os) (piece_app (l:=l2) (rest:=r3) (t2 w os) (piece_app (l:=l3) (rest:=r4) (t3 w os) (piece_app (l:=l4) (rest:=r5) (t4 w os) (piece_app (l:=l5) (rest:=r6) (t5 w os) (piece_app (l:=l6) (rest:=r7) (t6 w os) (piece_app (l:=l7) (rest:=r8) (t7 w os) (piece_app (l:=l8) (rest:=r9) (t8 w os) (piece_app (l:=l9) (rest:=r10) (t9 w os) (piece_app (l:=l10) (rest:=r11) (t10 w os) (piece_nil (t_fin w os))))))))))))))
theorem lft:LeftO p view [Str.ofString "GREATEST"] (fun s=>xlAt view [(Str.ofString "GREATEST",.int 1000000000000000000000000000000)] s && recOk (RowW.records PySem.Challenge.rw_uf030007_08.row.toRowW) s) (Hook.obs H) (Hook.val H) 9868 :=
 LeftO.of_pieces (H₀:=boot_heap) (H₁:=fun P=>⟨⟨hpf P⟩,{ }⟩) (boot_open (by kernel_rfl) (by kernel_rfl) (fun _=>by kernel_rfl)) (fun w=>by kernel_rfl) t_run (by kernel_rfl) (fun w=>by kernel_rfl)
end Mine.L08
end

section
open PySem PySem.W PyProof.Rows
set_option maxRecDepth 100000
set_option maxHeartbeats 8000000
namespace Mine.L08
noncomputable def nm : Names where
  fn f := (fnn.lookup f).getD Str.empty
  cls c := (["World", "House", "Caller"] : List PySem.Str)[c]?.getD Str.empty
  meth m := (["has", "owes", "came", "called", "parcel", "move", "write", "sleep", "nudge", "begin", "letter", "asking", "answers", "need_caller", "need_house", "need_key", "need_place", "call", "again", "letters", "brought", "hand", "twice", "lose", "home", "ledger", "is_settled", "one_round", "settle"] : List PySem.Str)[m]?.getD Str.empty
  attr := attrName
  exc c := (["MoveError", "BadWorld", "NoCaller", "NoHouse", "NoKey", "BadWish", "Busy", "Idle", "NotHere", "NoLetter"] : List PySem.Str)[c]?.getD Str.empty
  gi := [("GREATEST", 1000000000000000000000000000000), ("MOST", 6), ("LONGEST", 8)]
  gs := [("LETTERS", [97, 98, 99, 100, 101, 102, 103, 104, 105, 106, 107, 108, 109, 110, 111, 112, 113, 114, 115, 116, 117, 118, 119, 120, 121, 122])]
  xs := xsl
  xf f := xfl.contains f
  xm k := xml.contains k
  qf f := qfl.contains f
noncomputable def tab : Tab := ⟨[(0, 205), (1, 212), (2, 219), (4, 304), (5, 311), (100, 505), (118, 564), (121, 512), (122, 519), (123, 526), (124, 531), (125, 538), (126, 543), (127, 550), (128, 557), (11, 42), (12, 49), (13, 56), (14, 63), (15, 70), (21, 240), (22, 245), (23, 252), (24, 257), (25, 264), (27, 278), (29, 290), (41, 330), (42, 337), (43, 344), (44, 351), (45, 358), (47, 372), (48, 379), (49, 386), (50, 393), (52, 407), (54, 421), (55, 428), (57, 442), (58, 449), (59, 456), (60, 463), (61, 470), (62, 477), (63, 484), (64, 491), (10, 35), (20, 233), (40, 323)], [(0, 494), (1, 293), (2, 73)], fnl, mel, inl, xbl⟩
end Mine.L08
open Mine in
theorem PySem.Challenge.cw_uf030007_08_holds : PySem.Challenge.rw_uf030007_08.Holds := by
  refine holds_law (by kernel_rfl) fun said => ?_
  refine holds_open (q := L08.view) (loose := [Str.ofString "GREATEST"]) (Xt := fun s => xlAt L08.view [(Str.ofString "GREATEST", .int 1000000000000000000000000000000)] s && recOk (RowW.records PySem.Challenge.rw_uf030007_08.row.toRowW) s) (XP := XL L08.view [(Str.ofString "GREATEST", .int 1000000000000000000000000000000)]) (Yf := Hook.obs L08.H) (Ya := Hook.val L08.H) (YP := Hook.says L08.H) (N := 9868) L08.lft (Hook.of L08.H) (Hook.keeps L08.H) (fun s e => xl_of s (Bool.and_eq_true_iff.mp e).1) XL.keeps (by rfl) (by rfl) (by rfl) (fun s e => recFacts_of (Bool.and_eq_true_iff.mp e).2) (by rfl) (by first | assumption | decide +kernel) (by decide +kernel) ⟨rfl, rfl, rfl, rfl, rfl, by decide +kernel⟩ ?hw ?hc
  case hw => w_witness2
  intro w s₀ s₁ mg mb G Y fa o pm cd doc dV kV ho hd hcd hD hmg hg args vals as hpre hlay hrd hwl hlo
  have KX := kIn_of Y
  clear ho hd hcd hD
  refine Ground.open G ?_
  intro T B D TE TW
  wrow_args hpre hlay hrd hwl hlo
  refine enter_call ?_
  rename_i ns hs h0 hlay hx1 hx2 a1 a2 la vs a3 hL ra w1 r0 hI rr hc1 hc2
  have hlen : ns.length ≤ 63 := by omega
  have hbits : ∀ i ∈ ns, intBits i ≤ 1048576 := bits_lay hlay
  have S := stat_of (T := L08.tab) (N := L08.nm) (prog := PySem.Challenge.rw_uf030007_08.row.prog) (w := w) rfl KX T.g T.b T.builtins T.nolimit (by kernel_rfl) (by kernel_rfl) (by kernel_rfl) (by kernel_rfl) (by kernel_rfl) (fun y c h => by have h := List.contains_iff_mem.1 h; (rcases List.mem_cons.1 h with h | h; (cases h; exact ⟨by decide, own_of_in KX (topRead_of T) (by kernel_rfl) (by kernel_rfl)⟩)); (rcases List.mem_cons.1 h with h | h; (cases h; exact ⟨by decide, own_of_in KX (topRead_of T) (by kernel_rfl) (by kernel_rfl)⟩)); (rcases List.mem_cons.1 h with h | h; (cases h; exact ⟨by decide, own_of_in KX (topRead_of T) (by kernel_rfl) (by kernel_rfl)⟩)); (rcases List.mem_cons.1 h with h | h; (cases h; exact ⟨by decide, own_of_in KX (topRead_of T) (by kernel_rfl) (by kernel_rfl)⟩)); (rcases List.mem_cons.1 h with h | h; (cases h; exact ⟨by decide, own_of_in KX (topRead_of T) (by kernel_rfl) (by kernel_rfl)⟩)); (rcases List.mem_cons.1 h with h | h; (cases h; exact ⟨by decide, own_of_in KX (topRead_of T) (by kernel_rfl) (by kernel_rfl)⟩)); (rcases List.mem_cons.1 h with h | h; (cases h; exact ⟨by decide, own_of_in KX (topRead_of T) (by kernel_rfl) (by kernel_rfl)⟩)); (rcases List.mem_cons.1 h with h | h; (cases h; exact ⟨by decide, own_of_in KX (topRead_of T) (by kernel_rfl) (by kernel_rfl)⟩)); (rcases List.mem_cons.1 h with h | h; (cases h; exact ⟨by decide, own_of_in KX (topRead_of T) (by kernel_rfl) (by kernel_rfl)⟩)); (rcases List.mem_cons.1 h with h | h; (cases h; exact ⟨by decide, own_of_in KX (topRead_of T) (by kernel_rfl) (by kernel_rfl)⟩)); cases h) (by kernel_rfl) (by kernel_rfl) (by kernel_rfl)
  have hfa : fa = 564 := by
    have e := globIn_ok KX T.g (by kernel_rfl) (Str.ofString "law")
    have e3 := hmg.symm.trans (e.trans (b := globIn _ _) (c := some (Value.ref 564)) (by kernel_rfl))
    cases e3; rfl
  subst hfa
  obtain ⟨v, st', hrun, rfl⟩ := okr_elim (L08.law_ok 10 ns)
  cases w1 with
  | list hz _ =>
    rename_i vs' _
    have hvs : vs' = vs := by
      obtain ⟨o, h1, h2, n, h3⟩ := hL
      rw [hz] at h1
      cases h1
      simp at h3; exact h3.1
    subst hvs
    refine law_close S (by kernel_rfl) (by intro G C n H; kernel_rfl) (by intro G C n H; kernel_rfl) (by intro G C n H; kernel_rfl) (n := 16) (law := 118) ⟨fun _ => rfl, by decide, by decide⟩ rfl hz hlen hI hrun fun s' hk hos hgens => GoodW.toG ?_
    refine ⟨.inl ⟨.bool true, .bool true, [], rfl, raisesW_false (by wrow_none_raised), ?_, ?_, fun _ => ⟨List.nodup_nil, fun a h => by cases h⟩⟩, hk, hos, hgens.trans hg⟩
    · constructor
    · wrow_post
end
