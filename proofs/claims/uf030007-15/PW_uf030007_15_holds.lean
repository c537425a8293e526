import PyProof.Rows.All
import Wide.All
import OpenK.AllK
import Wide.FinOn
import Lean
import PySem.Challenge.RW_uf030007_15

set_option Elab.async false
set_option autoImplicit false
set_option linter.all false
set_option genInjectivity false
set_option genSizeOf false
set_option backward.match.sparseCases false
set_option backward.eqns.nonrecursive false
set_option bootstrap.genMatcherCode false

section
namespace Mine
noncomputable abbrev Lbl:=Nat×Nat
inductive V where
 | none
 | bool (b:Bool)
 | int (i:Int)
 | str (s:List Nat)
 | tup (l:List V)
 | lst (l:List V)
 | ref (l:Lbl)
 | exc (c:Nat)
noncomputable instance:DecidableEq V:=fun a b=>Classical.propDecidable (a=b)
noncomputable abbrev TK:=Int×(List Nat ⊕ Int)
inductive MObj where
 | list (l:List V)
 | dict (l:List (V×V))
 | tdict (l:List (TK×V))
 | inst (c:Nat) (as:List (Nat×V))
noncomputable instance:DecidableEq MObj:=fun a b=>Classical.propDecidable (a=b)
set_option genCtorIdx false in
structure MS where
 heap:Lbl→Option MObj
 cnt:Nat→Nat
 wr:Nat
inductive Res (α:Type) where
 | ok (a:α) (s:MS)
 | exc (c:Nat) (s:MS)
 | stuck
theorem zd {α:Type}{a:α}{s:MS}{P:Prop} (e:(Res.stuck:Res α)=.ok a s):P:=by cases e
theorem za {α:Type}{a:α}{P:Prop} (e:(none:Option α)=some a):P:=by cases e
theorem qg {P:Prop} (e:false=true):P:=by cases e
theorem zej {P:Prop} (e:true=false):P:=by cases e
noncomputable def Res.bind {α β:Type}:Res α→(α→MS→Res β)→Res β
 | .ok a s,f=>f a s
 | .exc c s,_=>.exc c s
 | .stuck,_=>.stuck
noncomputable def Res.bnd {α β:Type}:Res α→(α→MS→Res β)→Res β
 | .ok a s,f=>f a s
 | _,_=>.stuck
noncomputable def MS.put (s:MS) (l:Lbl) (o:MObj):MS:={ s with heap:=fun x=>if x=l then some o else s.heap x,wr:=s.wr + 1 }
noncomputable def MS.next (s:MS) (k:Nat):Lbl:=(k,s.cnt k)
noncomputable def MS.new (s:MS) (k:Nat) (o:MObj):MS:={ s with heap:=fun x=>if x=(k,s.cnt k) then some o else s.heap x,cnt:=fun j=>if j=k then s.cnt k + 1 else s.cnt j }
inductive Bop where | add | sub | mul | fdiv | mod | pow
inductive Cop where | eq | ne | lt | le | gt | ge | isin | notin
inductive Kind where | int | bool | str | list | tuple | valueError | cls (c:Nat)
inductive Prim where | len | max2 | int1 | sorted | tuple1 | list1 | all1
inductive Bm where | append | extend | pop | insert | count | get | join | upper
set_option genCtorIdx false in
inductive E where
 | none
 | bool (b:Bool)
 | int (i:Int)
 | str (s:List Nat)
 | loc (i:Nat)
 | gint (x:PySem.Str) (i:Int)
 | gstr (x:PySem.Str) (s:List Nat)
 | neg (a:E)
 | not (a:E)
 | and (l:List E)
 | or (l:List E)
 | bin (o:Bop) (a b:E)
 | cmp (a:E) (o:Cop) (b:E)
 | cmp2 (a:E) (o:Cop) (b:E) (o2:Cop) (c:E)
 | isC (neg:Bool) (a:E) (c:V)
 | tup (l:List E)
 | lst (l:List E)
 | lstM (k:Nat) (l:List E)
 | dictM (k:Nat) (ks:List (List Nat)) (vs:List E)
 | sub (a b:E)
 | slice (a:E) (lo hi:Option E)
 | attr (a:E) (i:Nat)
 | call (f:Nat) (l:List E)
 | meth (a:E) (m:Nat) (l:List E)
 | new (c:Nat) (l:List E)
 | isinst (a:E) (ks:List Kind)
 | prim (p:Prim) (l:List E)
 | listM (k:Nat) (a:E)
 | dictC (k:Nat) (a:E)
 | bm (m:Bm) (a:E) (l:List E)
 | comp (M:Option Nat) (slot:Nat) (range:Bool) (it:E) (cond:Option E) (elt:E)
set_option genCtorIdx false in
inductive T where
 | loc (i:Nat)
 | item (a b:E)
set_option genCtorIdx false in
inductive S where
 | expr (e:E)
 | assign (i:Nat) (e:E)
 | setattr (a:E) (i:Nat) (e:E)
 | setitem (a b e:E)
 | unpack (ts:List T) (e:E)
 | ite (c:E) (b1 b2:List S)
 | for_ (ts:T ⊕ List T) (range:Bool) (it:E) (body:List S)
 | while_ (c:E) (body:List S)
 | ret (e:Option E)
 | raise (c:Nat)
set_option genCtorIdx false in
structure Fn where
 np:Nat
 names:List PySem.Str
 body:List S
noncomputable abbrev Loc:=List (Option V)
set_option genCtorIdx false in
structure Prog where
 fns:Nat→Option Fn
 meths:Nat→Nat→Option Nat
 inits:Nat→Option (Nat×Nat)   -- class: kind of its labels,its __init__
 excBase:Nat→List Nat           -- classes that an exception class is under (itself too)
inductive Fl where
 | next
 | ret (v:V)
noncomputable def zv (s:MS):V→Option (Bool×List V)
 | .tup l=>some (false,l)
 | .lst l=>some (true,l)
 | .ref r=>match s.heap r with
  | some (.list l)=>some (true,l)
  | _=>Option.none
 | _=>Option.none
noncomputable def qy (f:V→V→Option Bool):List V→List V→Option Bool
 | [],[]=>some true
 | x :: la,y :: lb=>match f x y,qy f la lb with
  | some p,some q=>some (p && q)
  | _,_=>Option.none
 | [],_ :: _=>some false
 | _ :: _,[]=>some false
noncomputable def x5:V→Option Bool
 | .none=>some false
 | .bool _=>some false
 | .int _=>some false
 | .str _=>some false
 | _=>Option.none
noncomputable def pj (a b:V):Option Bool:=match a with
 | .none=>(match b with | .none=>some true | .bool _=>some false | .int _=>some false | .str _=>some false | _=>Option.none)
 | .bool x=>(match b with | .none=>some false | .bool y=>some (x == y) | .str _=>some false | _=>Option.none)
 | .int x=>(match b with | .none=>some false | .int y=>some (decide (x=y)) | .str _=>some false | _=>Option.none)
 | .str x=>(match b with | .none=>some false | .bool _=>some false | .int _=>some false | .str y=>some (decide (x=y)) | _=>Option.none)
 | _=>Option.none
noncomputable def veq (s:MS):Nat→V→V→Option Bool
 | 0,_,_=>Option.none
 | n + 1,a,b =>
  match zv s a,zv s b with
  | some p,some q=>if p.1=q.1 then (if p.1=true∧p.2.length≠q.2.length then some false else qy (veq s n) p.2 q.2) else some false
  | some _,Option.none=>x5 b
  | Option.none,some _=>x5 a
  | Option.none,Option.none=>pj a b
noncomputable def jv:Nat:=12
noncomputable def zf:Nat:=2 ^ 24
noncomputable def V.isKey:V→Bool
 | .str _=>true
 | _=>false
noncomputable def cr (a b:V):Bool:=match a with
 | .str x=>(match b with | .str y=>decide (x=y) | _=>false)
 | _=>false
noncomputable def jp (k:V):List (V×V)→Option V
 | []=>Option.none
 | (a,v) :: r=>if cr a k then some v else jp k r
noncomputable def m4 (k v:V):List (V×V)→List (V×V)
 | []=>[(k,v)]
 | (a,w) :: r=>if cr a k then (a,v) :: r else (a,w) :: m4 k v r
noncomputable def vt (k:Nat):List (Nat×V)→Option V
 | []=>Option.none
 | (a,v) :: r=>if a=k then some v else vt k r
noncomputable def p5 (k:Nat) (v:V):List (Nat×V)→List (Nat×V)
 | []=>[(k,v)]
 | (a,w) :: r=>if a=k then (a,v) :: r else (a,w) :: p5 k v r
noncomputable def idx (i:Int) (n:Nat):Option Nat :=
 if 0≤i then (if i < n then some i.toNat else Option.none) else (if 0≤i + n then some (i + n).toNat else Option.none)
noncomputable def vin (s:MS) (x:V):List V→Option Bool
 | []=>some false
 | y :: r=>match veq s jv y x,vin s x r with
  | some p,some q=>some (p || q)
  | _,_=>Option.none
noncomputable def okV (s:MS) (o:Option V):Res V:=match o with
 | some v=>.ok v s
 | Option.none=>.stuck
noncomputable def okB (s:MS) (o:Option Bool):Res V:=match o with
 | some b=>.ok (.bool b) s
 | Option.none=>.stuck
noncomputable def intBits (i:Int):Nat:=if i=0 then 0 else i.natAbs.log2 + 1
noncomputable def o6 (a b:Int):Bool:=intBits a≤64 || intBits b≤64 || intBits a + intBits b≤134217728
noncomputable def zh5 (a b:V) (s:MS):Res V :=
 match zv s a,zv s b with
 | some p,some q=>if p.1=q.1∧p.2.length + q.2.length≤zf then .ok (if p.1 then .lst (p.2 ++ q.2) else .tup (p.2 ++ q.2)) s else .stuck
 | _,_=>.stuck
noncomputable def n8 (a b:V) (f:Int→Int→Res V):Res V:=match a with
 | .int x=>(match b with | .int y=>f x y | _=>.stuck)
 | _=>.stuck
noncomputable def zp7 (a b:V) (f:List Nat→List Nat→Res V):Res V:=match a with
 | .str x=>(match b with | .str y=>f x y | _=>.stuck)
 | _=>.stuck
noncomputable def wa (o:Bop) (a b:V) (s:MS):Res V :=
 match o with
 | .add=>(match a with
  | .int _=>n8 a b fun x y=>.ok (.int (x + y)) s
  | .str _=>zp7 a b fun x y=>if x.length + y.length≤zf then .ok (.str (x ++ y)) s else .stuck
  | _=>zh5 a b s)
 | .sub=>n8 a b fun x y=>.ok (.int (x - y)) s
 | .mul=>n8 a b fun x y=>if o6 x y then .ok (.int (x * y)) s else .stuck
 | .fdiv=>n8 a b fun x y=>if y=0∨64 < intBits y then .stuck else .ok (.int (x.fdiv y)) s
 | .mod=>n8 a b fun x y=>if y=0 then .stuck else .ok (.int (x.fmod y)) s
 | .pow=>n8 a b fun x y=>if 0≤y∧(intBits x:Int) * y≤134217728 then .ok (.int (x ^ y.toNat)) s else .stuck
theorem zog {a b v:V}{f:Int→Int→Res V}{s:MS} (h:n8 a b f=.ok v s):∃ x y,a=.int x∧b=.int y∧f x y=.ok v s:=by
 cases a with
 | int x=>cases b with
  | int y=>exact ⟨x,y,rfl,rfl,h⟩
  | _=>exact zd h
 | _=>exact zd h
theorem zoi {a b v:V}{f:List Nat→List Nat→Res V}{s:MS} (h:zp7 a b f=.ok v s):∃ x y,a=.str x∧b=.str y∧f x y=.ok v s:=by
 cases a with
 | str x=>cases b with
  | str y=>exact ⟨x,y,rfl,rfl,h⟩
  | _=>exact zd h
 | _=>exact zd h
theorem zqp {c:Prop} [Decidable c] {a v:V}{s s':MS} (h:(if c then Res.ok a s else .stuck)=.ok v s'):c∧a=v∧s=s':=by
 by_cases hc:c
 ·rw [if_pos hc] at h; cases h; exact ⟨hc,rfl,rfl⟩
 ·rw [if_neg hc] at h; exact zd h
theorem zka {c:Prop} [Decidable c] {a v:V}{s s':MS} (h:(if c then .stuck else Res.ok a s)=.ok v s'):¬ c∧a=v∧s=s':=by
 by_cases hc:c
 ·rw [if_pos hc] at h; exact zd h
 ·rw [if_neg hc] at h; cases h; exact ⟨hc,rfl,rfl⟩
theorem rq {β:Type}{o:Option (Bool×List V)}{f:Bool×List V→Res β}{y:β}{s:MS} (e:(match o with | some p=>f p | Option.none=>.stuck)=.ok y s):∃ p,o=some p∧f p=.ok y s:=by
 cases o with
 | none=>exact zd e
 | some p=>exact ⟨p,rfl,e⟩
theorem zcc {β:Type}{o:Option (Lbl×List V)}{f:Lbl×List V→Res β}{y:β}{s:MS} (e:(match o with | some p=>f p | Option.none=>.stuck)=.ok y s):∃ p,o=some p∧f p=.ok y s:=by
 cases o with
 | none=>exact zd e
 | some p=>exact ⟨p,rfl,e⟩
theorem zpg {β:Type}{o:Option (Lbl×List (V×V))}{f:Lbl×List (V×V)→Res β}{y:β}{s:MS} (e:(match o with | some p=>f p | Option.none=>.stuck)=.ok y s):∃ p,o=some p∧f p=.ok y s:=by
 cases o with
 | none=>exact zd e
 | some p=>exact ⟨p,rfl,e⟩
theorem zp1 {β:Type}{o:Option (Nat)}{f:Nat→Res β}{y:β}{s:MS} (e:(match o with | some p=>f p | Option.none=>.stuck)=.ok y s):∃ p,o=some p∧f p=.ok y s:=by
 cases o with
 | none=>exact zd e
 | some p=>exact ⟨p,rfl,e⟩
theorem zp0 {β:Type}{o:Option (V)}{f:V→Res β}{y:β}{s:MS} (e:(match o with | some p=>f p | Option.none=>.stuck)=.ok y s):∃ p,o=some p∧f p=.ok y s:=by
 cases o with
 | none=>exact zd e
 | some p=>exact ⟨p,rfl,e⟩
theorem zpl {β:Type}{o:Option (List Nat)}{f:List Nat→Res β}{y:β}{s:MS} (e:(match o with | some p=>f p | Option.none=>.stuck)=.ok y s):∃ p,o=some p∧f p=.ok y s:=by
 cases o with
 | none=>exact zd e
 | some p=>exact ⟨p,rfl,e⟩
theorem s9 {β:Type}{o:Option (List V)}{f:List V→Res β}{y:β}{s:MS} (e:(match o with | some p=>f p | Option.none=>.stuck)=.ok y s):∃ p,o=some p∧f p=.ok y s:=by
 cases o with
 | none=>exact zd e
 | some p=>exact ⟨p,rfl,e⟩
theorem jw {β:Type}{c:Prop} [Decidable c] {x:Res β}{y:β}{s:MS} (e:(if c then x else .stuck)=.ok y s):c∧x=.ok y s:=by
 by_cases h:c
 ·rw [if_pos h] at e; exact ⟨h,e⟩
 ·rw [if_neg h] at e; exact zd e
theorem jx {β:Type}{a b:β}{s s':MS} (e:Res.ok a s=.ok b s'):b=a∧s'=s:=by cases e; exact ⟨rfl,rfl⟩
theorem zek {β:Type}{X:V}{f:Lbl→Res β}{y:β}{s:MS} (e:(match X with | .ref r=>f r | _=>.stuck)=.ok y s):∃ r,X=.ref r∧f r=.ok y s:=by
 cases X with
 | ref r=>exact ⟨r,rfl,e⟩
 | _=>exact zd e
theorem zel {β:Type}{X:V}{f:List V→Res β}{y:β}{s:MS} (e:(match X with | .lst r=>f r | _=>.stuck)=.ok y s):∃ r,X=.lst r∧f r=.ok y s:=by
 cases X with
 | lst r=>exact ⟨r,rfl,e⟩
 | _=>exact zd e
theorem znc {β:Type}{X:V}{f:Int→Res β}{y:β}{s:MS} (e:(match X with | .int r=>f r | _=>.stuck)=.ok y s):∃ r,X=.int r∧f r=.ok y s:=by
 cases X with
 | int r=>exact ⟨r,rfl,e⟩
 | _=>exact zd e
theorem zno {β:Type}{X:V}{f:List Nat→Res β}{y:β}{s:MS} (e:(match X with | .str r=>f r | _=>.stuck)=.ok y s):∃ r,X=.str r∧f r=.ok y s:=by
 cases X with
 | str r=>exact ⟨r,rfl,e⟩
 | _=>exact zd e
theorem lg {o:Option V}{Z:V}{st st':MS} (h:okV st o=.ok Z st'):o=some Z∧st'=st:=by
 cases o with
 | none=>exact zd h
 | some b=>cases h; exact ⟨rfl,rfl⟩
theorem lj {o:Option Bool}{Z:V}{st st':MS} (h:okB st o=.ok Z st'):∃ b,o=some b∧Z=.bool b∧st'=st:=by
 cases o with
 | none=>exact zd h
 | some b=>cases h; exact ⟨b,rfl,rfl,rfl⟩
noncomputable def cmpOp (o:Cop) (a b:V) (s:MS):Res V :=
 match o with
 | .eq=>okB s (veq s jv a b)
 | .ne=>okB s ((veq s jv a b).map (!·))
 | .lt=>match a,b with | .int x,.int y=>.ok (.bool (decide (x < y))) s | _,_=>.stuck
 | .le=>match a,b with | .int x,.int y=>.ok (.bool (decide (x≤y))) s | _,_=>.stuck
 | .gt=>match a,b with | .int x,.int y=>.ok (.bool (decide (y < x))) s | _,_=>.stuck
 | .ge=>match a,b with | .int x,.int y=>.ok (.bool (decide (y≤x))) s | _,_=>.stuck
 | .isin=>okB s (memb a b s)
 | .notin=>okB s ((memb a b s).map (!·))
where
 memb (a b:V) (s:MS):Option Bool :=
  match zv s b with
  | some (_,l)=>vin s a l
  | Option.none=>match b with
   | .str y=>match a with | .str [c]=>some (decide (c∈y)) | _=>Option.none
   | .ref r=>match s.heap r with
    | some (.dict l)=>if a.isKey then some (jp a l).isSome else Option.none
    | _=>Option.none
   | _=>Option.none
noncomputable def getItem (a b:V) (s:MS):Res V :=
 match b with
 | .int i=>match a with
  | .str x=>if x.length≤zf then okV s ((idx i x.length).bind fun j=>(x[j]?).map fun c=>.str [c]) else .stuck
  | a=>match zv s a with
   | some (_,l)=>okV s ((idx i l.length).bind fun j=>l[j]?)
   | Option.none=>.stuck
 | b=>match a with
  | .ref r=>match s.heap r with
   | some (.dict l)=>if b.isKey then okV s (jp b l) else .stuck
   | _=>.stuck
  | _=>.stuck
noncomputable def kt (a:V) (s:MS):Option (Lbl×List V) :=
 match a with
 | .ref r=>match s.heap r with
  | some (.list l)=>some (r,l)
  | _=>Option.none
 | _=>Option.none
noncomputable def dictAt (a:V) (s:MS):Option (Lbl×List (V×V)) :=
 match a with
 | .ref r=>match s.heap r with
  | some (.dict l)=>some (r,l)
  | _=>Option.none
 | _=>Option.none
noncomputable def setItem (a b v:V) (s:MS):Res Unit :=
 match dictAt a s with
  | some p=>if b.isKey∧p.2.length < zf then .ok () (s.put p.1 (.dict (m4 b v p.2))) else .stuck
  | Option.none=>.stuck
noncomputable def ke (d:Nat):Option V→Option Nat
 | Option.none=>some d
 | some (.int i)=>if 0≤i then some i.toNat else Option.none
 | _=>Option.none
noncomputable def xu (a:V) (lo hi:Option V) (s:MS):Res V :=
 match a with
 | .str x=>match ke 0 lo,ke x.length hi with
  | some i,some j=>if x.length≤zf then .ok (.str ((x.take j).drop i)) s else .stuck
  | _,_=>.stuck
 | a=>match zv s a with
  | some (true,l)=>match ke 0 lo,ke l.length hi with
   | some i,some j=>.ok (.lst ((l.take j).drop i)) s
   | _,_=>.stuck
  | some (false,l)=>match ke 0 lo,ke l.length hi with
   | some i,some j=>if ((l.take j).drop i).length < l.length then .ok (.tup ((l.take j).drop i)) s else .stuck
   | _,_=>.stuck
  | Option.none=>.stuck
noncomputable def getAttr (a:V) (i:Nat) (s:MS):Res V :=
 match a with
 | .ref r=>match s.heap r with
  | some (.inst _ as)=>okV s (vt i as)
  | _=>.stuck
 | _=>.stuck
noncomputable def setAttr (a:V) (i:Nat) (v:V) (s:MS):Res Unit :=
 match a with
 | .ref r=>match s.heap r with
  | some (.inst c as)=>if as.length < 1000 then .ok () (s.put r (.inst c (p5 i v as))) else .stuck
  | _=>.stuck
 | _=>.stuck
inductive Tag where | none | bool | int | str | tuple | list | dict
noncomputable def zb3 (s:MS):V→Option Tag
 | .none=>some .none
 | .bool _=>some .bool
 | .int _=>some .int
 | .str _=>some .str
 | .tup _=>some .tuple
 | .lst _=>some .list
 | .ref r=>match s.heap r with
  | some (.list _)=>some .list
  | some (.dict _)=>some .dict
  | _=>Option.none
 | .exc _=>Option.none
noncomputable def m7 (g:Tag):Kind→Option Bool
 | .int=>some (match g with | .int | .bool=>true | _=>false)
 | .bool=>some (match g with | .bool=>true | _=>false)
 | .str=>some (match g with | .str=>true | _=>false)
 | .tuple=>some (match g with | .tuple=>true | _=>false)
 | .list=>some (match g with | .list=>true | _=>false)
 | .valueError=>Option.none
 | .cls _=>Option.none
noncomputable def b8 (P:Prog) (s:MS) (v:V) (k:Kind):Option Bool :=
 match v with
 | .exc d=>match k with
  | .valueError=>some true
  | .cls c=>some ((P.excBase d).contains c)
  | _=>Option.none
 | v=>match zb3 s v with
  | some g=>m7 g k
  | Option.none=>Option.none
noncomputable def wy (P:Prog) (s:MS) (v:V):List Kind→Option Bool
 | []=>some false
 | k :: r=>match b8 P s v k with
  | some true=>some true
  | some false=>wy P s v r
  | Option.none=>Option.none
noncomputable def allTrue:List V→Option Bool
 | []=>some true
 | .bool b :: r=>(allTrue r).map (b && ·)
 | _ :: _=>Option.none
noncomputable def jd:V→Option Int
 | .tup (.int x :: _)=>some x
 | _=>Option.none
noncomputable def rising:List Int→Bool
 | x :: y :: r=>decide (x < y) && rising (y :: r)
 | _=>true
noncomputable def x4 (x:Int):List Int→Nat
 | []=>0
 | k :: r=>if x < k then 0 else x4 x r + 1
noncomputable def y7 (m pos:Nat):List Nat:=List.range pos ++ m :: (List.range (m - pos)).map (pos + ·)
noncomputable def jz (l:List V):Option (List V) :=
 match l.reverse with
 | []=>some []
 | v :: r=>match jd v,(r.reverse).mapM jd with
  | some x,some ks=>if rising ks && !ks.contains x && decide (l.length≤6) then some ((y7 ks.length (x4 x ks)).map fun i=>l.getD i .none) else Option.none
  | _,_=>Option.none
noncomputable def zji (v:V) (s:MS):Res V :=
 match v with
 | .str x=>if x.length≤zf then .ok (.int x.length) s else .stuck
 | v=>match zv s v with
  | some p=>.ok (.int p.2.length) s
  | Option.none=>.stuck
noncomputable def zdw (p:Prim) (v:V) (s:MS):Res V :=
 match p with
 | .len=>zji v s
 | .tuple1=>match zv s v with
  | some p=>.ok (.tup p.2) s
  | Option.none=>.stuck
 | .list1=>match zv s v with
  | some p=>.ok (.lst p.2) s
  | Option.none=>.stuck
 | .sorted=>match v with
  | .lst l=>match jz l with
   | some m=>.ok (.lst m) s
   | Option.none=>.stuck
  | _=>.stuck
 | _=>.stuck
noncomputable def zuy (p:Prim) (v w:V) (s:MS):Res V :=
 match p with
 | .max2=>match v,w with
  | .int x,.int y=>.ok (.int (if x < y then y else x)) s
  | _,_=>.stuck
 | _=>.stuck
noncomputable def prim (p:Prim) (l:List V) (s:MS):Res V :=
 match l with
 | [v]=>zdw p v s
 | [v,w]=>zuy p v w s
 | _=>.stuck
noncomputable def wu:List V→Option (List Nat)
 | []=>some []
 | .str x :: r=>(wu r).map (x ++ ·)
 | _=>Option.none
noncomputable def bm0 (m:Bm) (a:V) (s:MS):Res V :=
 match m with
 | .upper=>match a with
  | .str x=>if x.all (fun c=>decide (97≤c) && decide (c≤122)) && decide (x.length≤1000) then .ok (.str (x.map (· - 32))) s else .stuck
  | _=>.stuck
 | _=>.stuck
noncomputable def bm1 (m:Bm) (a v:V) (s:MS):Res V :=
 match m with
 | .append=>match kt a s with
  | some p=>if p.2.length < zf then .ok .none (s.put p.1 (.list (p.2 ++ [v]))) else .stuck
  | Option.none=>.stuck
 | .extend=>match kt a s with
  | some p=>match zv s v with
   | some q=>if p.2.length + q.2.length≤zf then .ok .none (s.put p.1 (.list (p.2 ++ q.2))) else .stuck
   | Option.none=>.stuck
  | Option.none=>.stuck
 | .pop=>match kt a s with
  | some p=>match v with
   | .int i=>match idx i p.2.length with
    | some j=>match p.2[j]? with
     | some v=>.ok v (s.put p.1 (.list (p.2.eraseIdx j)))
     | Option.none=>.stuck
    | Option.none=>.stuck
   | _=>.stuck
  | Option.none=>.stuck
 | .join=>match a with
  | .str x0=>match x0 with
   | []=>match v with
    | .lst l=>match wu l with
     | some x=>if x.length≤zf then .ok (.str x) s else .stuck
     | Option.none=>.stuck
    | _=>.stuck
   | _ :: _=>.stuck
  | _=>.stuck
 | _=>.stuck
noncomputable def bm2 (m:Bm) (a v w:V) (s:MS):Res V :=
 match m with
 | .insert=>match kt a s,v with
  | some p,.int i=>if 0≤i∧i≤p.2.length∧p.2.length < zf then .ok .none (s.put p.1 (.list (p.2.take i.toNat ++ w :: p.2.drop i.toNat))) else .stuck
  | _,_=>.stuck
 | _=>.stuck
noncomputable def bq (m:Bm) (a:V) (l:List V) (s:MS):Res V :=
 match l with
 | []=>bm0 m a s
 | [v]=>bm1 m a v s
 | [v,w]=>bm2 m a v w s
 | _=>.stuck
noncomputable def z6 (s:MS) (range:Bool) (v:V):Option (List V) :=
 match range with
 | true=>match v with
  | .int n=>if -1000≤n∧n≤zf then some ((List.range n.toNat).map fun (i:Nat)=>.int i) else Option.none
  | _=>Option.none
 | false=>match v with
  | .str x=>if x.all (fun c=>decide (c < 128)) then some (x.map fun c=>.str [c]) else Option.none
  | v=>match dictAt v s with
   | some p=>some (p.2.map (·.1))
   | Option.none=>(zv s v).map (·.2)
noncomputable def stays (s₀ s:MS) (range:Bool) (v:V):Bool :=
 match range,v with
 | false,.ref r=>decide (s₀.heap r=s.heap r) && ((dictAt v s₀).isNone || decide (s₀.wr=s.wr))
 | _,_=>true
noncomputable abbrev Calls:=Nat→List V→MS→Res V
noncomputable def vn:V→MS→Res Bool
 | .bool b,s=>.ok b s
 | _,_=>.stuck
noncomputable def xx (P:Prog) (C:Calls) (c:Nat) (vs:List V) (s:MS):Res V :=
 match P.inits c with
 | some (k,f)=>(C f (.ref (k,s.cnt k) :: vs) (s.new k (.inst c []))).bind fun r s'=>match r with
  | .none=>.ok (.ref (k,s.cnt k)) s'
  | _=>.stuck
 | Option.none=>.stuck
noncomputable def yx (P:Prog) (a:V) (m:Nat) (s:MS):Option Nat :=
 match a with
 | .ref r=>match s.heap r with
  | some (.inst c _)=>P.meths c m
  | _=>Option.none
 | _=>Option.none
noncomputable def za6 (m:Bm) (a:V) (s:MS):Bool :=
 match m with
 | .count=>match a with | .lst _=>true | _=>false
 | .join=>match a with | .str _=>true | _=>false
 | .upper=>match a with | .str _=>true | _=>false
 | .get=>(dictAt a s).isSome
 | _=>(kt a s).isSome
noncomputable def compLoop (s₀:MS) (range:Bool) (src:V) (slot:Nat) (cond:Option (Loc→MS→Res V)) (elt:Loc→MS→Res V) (loc:Loc):List V→List V→MS→Res (List V)
 | acc,[],s=>if stays s₀ s range src then .ok acc s else .stuck
 | acc,x :: r,s =>
  if stays s₀ s range src then
   (match cond with
    | some c=>(c (loc.set slot (some x)) s).bind vn
    | Option.none=>.ok true s).bind fun b s =>
   if b then (elt (loc.set slot (some x)) s).bind fun v s=>if acc.length < zf then compLoop s₀ range src slot cond elt loc (acc ++ [v]) r s else .stuck
   else compLoop s₀ range src slot cond elt loc acc r s
  else .stuck
theorem v8 {s₀:MS}{range:Bool}{src:V}{slot:Nat}{cond:Option (Loc→MS→Res V)}{elt:Loc→MS→Res V}{loc:Loc}{acc:List V}{s:MS}:compLoop s₀ range src slot cond elt loc acc [] s=if stays s₀ s range src then .ok acc s else .stuck:=rfl
theorem vh {s₀:MS}{range:Bool}{src x:V}{r:List V}{slot:Nat}{cond:Option (Loc→MS→Res V)}{elt:Loc→MS→Res V}{loc:Loc}{acc:List V}{s:MS}:compLoop s₀ range src slot cond elt loc acc (x :: r) s =
  if stays s₀ s range src then
   (match cond with
    | some c=>(c (loc.set slot (some x)) s).bind vn
    | Option.none=>.ok true s).bind fun b s =>
   if b then (elt (loc.set slot (some x)) s).bind fun v s=>if acc.length < zf then compLoop s₀ range src slot cond elt loc (acc ++ [v]) r s else .stuck
   else compLoop s₀ range src slot cond elt loc acc r s
  else .stuck:=rfl
mutual
noncomputable def ev (P:Prog) (C:Calls):E→Loc→MS→Res V
 | .none,_,s=>.ok .none s
 | .bool b,_,s=>.ok (.bool b) s
 | .int i,_,s=>.ok (.int i) s
 | .str x,_,s=>.ok (.str x) s
 | .loc i,l,s=>match l[i]? with
  | some (some v)=>.ok v s
  | _=>.stuck
 | .gint _ i,_,s=>.ok (.int i) s
 | .gstr _ x,_,s=>.ok (.str x) s
 | .neg a,l,s=>(ev P C a l s).bind fun v s=>match v with
  | .int i=>.ok (.int (-i)) s
  | _=>.stuck
 | .not a,l,s=>(ev P C a l s).bind fun v s=>(vn v s).bind fun b s=>.ok (.bool (!b)) s
 | .and es,l,s=>gx P C es l s
 | .or es,l,s=>im P C es l s
 | .bin o a b,l,s=>(ev P C a l s).bind fun x s=>(ev P C b l s).bind fun y s=>wa o x y s
 | .cmp a o b,l,s=>(ev P C a l s).bind fun x s=>(ev P C b l s).bind fun y s=>cmpOp o x y s
 | .cmp2 a o b o2 c,l,s=>(ev P C a l s).bind fun x s=>(ev P C b l s).bind fun y s=>(cmpOp o x y s).bind fun v s=>(vn v s).bind fun t s =>
   if t then (ev P C c l s).bind fun z s=>cmpOp o2 y z s else .ok (.bool false) s
 | .isC n a c,l,s=>(ev P C a l s).bind fun v s=>match c with
  | .none | .bool _=>.ok (.bool (decide (v=c) != n)) s
  | _=>.stuck
 | .tup es,l,s=>(evL P C es l s).bind fun vs s=>if vs.length≤zf then .ok (.tup vs) s else .stuck
 | .lst es,l,s=>(evL P C es l s).bind fun vs s=>if vs.length≤zf then .ok (.lst vs) s else .stuck
 | .lstM k es,l,s=>(evL P C es l s).bind fun vs s=>if vs.length≤zf then .ok (.ref (k,s.cnt k)) (s.new k (.list vs)) else .stuck
 | .dictM k ks es,l,s=>(evL P C es l s).bind fun vs s=>if ks.length=vs.length∧ks.length≤15∧ks.Nodup then
   .ok (.ref (k,s.cnt k)) (s.new k (.dict ((ks.zip vs).map fun p=>(.str p.1,p.2)))) else .stuck
 | .sub a b,l,s=>(ev P C a l s).bind fun x s=>(ev P C b l s).bind fun y s=>getItem x y s
 | .slice a lo hi,l,s=>(ev P C a l s).bind fun x s=>(evO P C lo l s).bind fun y s=>(evO P C hi l s).bind fun z s=>xu x y z s
 | .attr a i,l,s=>(ev P C a l s).bind fun x s=>getAttr x i s
 | .call f es,l,s=>(evL P C es l s).bind fun vs s=>C f vs s
 | .meth a m es,l,s=>(ev P C a l s).bind fun x s=>match yx P x m s with
  | some f=>(evL P C es l s).bind fun vs s=>C f (x :: vs) s
  | Option.none=>.stuck
 | .new c es,l,s=>(evL P C es l s).bind fun vs s=>xx P C c vs s
 | .isinst a ks,l,s=>(ev P C a l s).bind fun x s=>okB s (wy P s x ks)
 | .prim p es,l,s=>(evL P C es l s).bind fun vs s=>prim p vs s
 | .listM k a,l,s=>(ev P C a l s).bind fun x s=>match zv s x with
  | some (_,vs)=>.ok (.ref (k,s.cnt k)) (s.new k (.list vs))
  | Option.none=>.stuck
 | .dictC k a,l,s=>(ev P C a l s).bind fun x s=>match x with
  | .ref r=>match s.heap r with
   | some (.dict d)=>if d.length≤1000 then .ok (.ref (k,s.cnt k)) (s.new k (.dict d)) else .stuck
   | _=>.stuck
  | _=>.stuck
 | .bm m a es,l,s=>(ev P C a l s).bind fun x s=>if za6 m x s then (evL P C es l s).bind fun vs s=>bq m x vs s else .stuck
 | .comp M slot range it cond elt,l,s=>(ev P C it l s).bind fun src s=>match z6 s range src with
  | some xs=>(compLoop s range src slot (evC P C cond) (ev P C elt) l [] xs s).bind fun vs s=>match M with
   | Option.none=>.ok (.lst vs) s
   | some k=>.ok (.ref (k,s.cnt k)) (s.new k (.list vs))
  | Option.none=>.stuck
noncomputable def evC (P:Prog) (C:Calls):Option E→Option (Loc→MS→Res V)
 | Option.none=>Option.none
 | some e=>some (ev P C e)
noncomputable def evO (P:Prog) (C:Calls):Option E→Loc→MS→Res (Option V)
 | Option.none,_,s=>.ok Option.none s
 | some e,l,s=>(ev P C e l s).bind fun v s=>.ok (some v) s
noncomputable def evL (P:Prog) (C:Calls):List E→Loc→MS→Res (List V)
 | [],_,s=>.ok [] s
 | e :: r,l,s=>(ev P C e l s).bind fun v s=>(evL P C r l s).bind fun vs s=>.ok (v :: vs) s
noncomputable def gx (P:Prog) (C:Calls):List E→Loc→MS→Res V
 | [],_,_=>.stuck
 | [e],l,s=>ev P C e l s
 | e :: e' :: r,l,s=>(ev P C e l s).bind fun v s=>(vn v s).bind fun b s=>if b then gx P C (e' :: r) l s else .ok v s
noncomputable def im (P:Prog) (C:Calls):List E→Loc→MS→Res V
 | [],_,_=>.stuck
 | [e],l,s=>ev P C e l s
 | e :: e' :: r,l,s=>(ev P C e l s).bind fun v s=>(vn v s).bind fun b s=>if b then .ok v s else im P C (e' :: r) l s
end
noncomputable def zhj (P:Prog) (C:Calls) (t:T) (v:V) (l:Loc) (s:MS):Res Loc :=
 match t with
 | .loc i=>if i < l.length then .ok (l.set i (some v)) s else .stuck
 | .item a b=>(ev P C a l s).bind fun x s=>(ev P C b l s).bind fun y s=>(setItem x y v s).bind fun _ s=>.ok l s
noncomputable def td (P:Prog) (C:Calls):List T→List V→Loc→MS→Res Loc
 | [],[],l,s=>.ok l s
 | t :: ts,v :: vs,l,s=>(zhj P C t v l s).bind fun l s=>td P C ts vs l s
 | _,_,_,_=>.stuck
noncomputable def ls (P:Prog) (C:Calls) (ts:List T) (v:V) (l:Loc) (s:MS):Res Loc :=
 match v with
 | .tup vs=>td P C ts vs l s
 | _=>.stuck
noncomputable def u0 (P:Prog) (C:Calls) (ts:T ⊕ List T) (v:V) (l:Loc) (s:MS):Res Loc :=
 match ts with
 | .inl t=>zhj P C t v l s
 | .inr ts=>ls P C ts v l s
noncomputable def ty (ts:T ⊕ List T) (range:Bool) (src:V) (s:MS):Bool :=
 match ts with
 | .inl _=>true
 | .inr _=>!range && (zv s src).isSome
noncomputable def jc (s₀:MS) (range:Bool) (src:V) (tgt:V→Loc→MS→Res Loc) (body:Loc→MS→Res (Fl×Loc)):List V→Loc→MS→Res (Fl×Loc)
 | [],l,s=>if stays s₀ s range src then .ok (.next,l) s else .stuck
 | x :: r,l,s =>
  if stays s₀ s range src then
   (tgt x l s).bnd fun l s=>(body l s).bind fun p s=>match p.1 with
    | .next=>jc s₀ range src tgt body r p.2 s
    | .ret v=>.ok (.ret v,p.2) s
  else .stuck
theorem vq {s₀:MS}{range:Bool}{src:V}{tgt:V→Loc→MS→Res Loc}{body:Loc→MS→Res (Fl×Loc)}{l:Loc}{s:MS}:jc s₀ range src tgt body [] l s=if stays s₀ s range src then .ok (.next,l) s else .stuck:=rfl
theorem xo {s₀:MS}{range:Bool}{src x:V}{r:List V}{tgt:V→Loc→MS→Res Loc}{body:Loc→MS→Res (Fl×Loc)}{l:Loc}{s:MS}:jc s₀ range src tgt body (x :: r) l s=if stays s₀ s range src then
   (tgt x l s).bnd fun l s=>(body l s).bind fun p s=>match p.1 with
    | .next=>jc s₀ range src tgt body r p.2 s
    | .ret v=>.ok (.ret v,p.2) s
  else .stuck:=rfl
noncomputable def xq (test:Loc→MS→Res V) (body:Loc→MS→Res (Fl×Loc)):Nat→Loc→MS→Res (Fl×Loc)
 | 0,_,_=>.stuck
 | n + 1,l,s=>(test l s).bnd fun v s=>(vn v s).bnd fun b s =>
  if b then (body l s).bind fun p s=>match p.1 with
   | .next=>xq test body n p.2 s
   | .ret v=>.ok (.ret v,p.2) s
  else .ok (.next,l) s
mutual
noncomputable def ex (P:Prog) (C:Calls) (n:Nat):S→Loc→MS→Res (Fl×Loc)
 | .expr e,l,s=>(ev P C e l s).bnd fun _ s=>.ok (.next,l) s
 | .assign i e,l,s=>(ev P C e l s).bnd fun v s=>if i < l.length then .ok (.next,l.set i (some v)) s else .stuck
 | .setattr a i e,l,s=>(ev P C e l s).bnd fun v s=>(ev P C a l s).bnd fun x s=>(setAttr x i v s).bnd fun _ s=>.ok (.next,l) s
 | .setitem a b e,l,s=>(ev P C e l s).bnd fun v s=>(ev P C a l s).bnd fun x s=>(ev P C b l s).bnd fun y s=>(setItem x y v s).bnd fun _ s=>.ok (.next,l) s
 | .unpack ts e,l,s=>(ev P C e l s).bnd fun v s=>(ls P C ts v l s).bnd fun l s=>.ok (.next,l) s
 | .ite c b1 b2,l,s=>(ev P C c l s).bnd fun v s=>(vn v s).bnd fun b s=>if b then exs P C n b1 l s else exs P C n b2 l s
 | .for_ ts range it body,l,s=>(ev P C it l s).bnd fun src s=>match z6 s range src with
  | some xs=>if ty ts range src s then jc s range src (u0 P C ts) (exs P C n body) xs l s else .stuck
  | Option.none=>.stuck
 | .while_ c body,l,s=>xq (ev P C c) (exs P C n body) n l s
 | .ret e,l,s=>match e with
  | some e=>(ev P C e l s).bnd fun v s=>.ok (.ret v,l) s
  | Option.none=>.ok (.ret .none,l) s
 | .raise c,_,s=>.exc c s
noncomputable def exs (P:Prog) (C:Calls) (n:Nat):List S→Loc→MS→Res (Fl×Loc)
 | [],l,s=>.ok (.next,l) s
 | st :: r,l,s=>(ex P C n st l s).bind fun p s=>match p.1 with
  | .next=>exs P C n r p.2 s
  | .ret v=>.ok (.ret v,p.2) s
noncomputable def exH (P:Prog) (C:Calls) (n:Nat):List (Nat×Option Nat×List S)→Nat→Loc→MS→Res (Fl×Loc)
 | [],c,_,s=>.exc c s
 | (k,x,b) :: r,c,l,s=>if (P.excBase c).contains k then
   (exs P C n b (match x with | some i=>l.set i (some (.exc c)) | Option.none=>l) s).bind fun p s =>
    .ok (p.1,match x with | some i=>p.2.set i Option.none | Option.none=>p.2) s
  else exH P C n r c l s
end
noncomputable def run (P:Prog):Nat→Calls
 | 0,_,_,_=>.stuck
 | n + 1,f,vs,s=>match P.fns f with
  | some fn=>if vs.length=fn.np then
    (exs P (run P n) n fn.body (vs.map some ++ List.replicate (fn.names.length - fn.np) Option.none) s).bind fun p s=>.ok (match p.1 with | .ret v=>v | .next=>.none) s
   else .stuck
  | Option.none=>.stuck
theorem zqu (P:Prog) (C:Calls):∀ i l s,ev P C (.loc i) l s=match l[i]? with
  | some (some v)=>.ok v s
  | _=>.stuck:=by intros; rfl
theorem zqx (P:Prog) (C:Calls):∀ a l s,ev P C (.neg a) l s=(ev P C a l s).bind fun v s=>match v with
  | .int i=>.ok (.int (-i)) s
  | _=>.stuck:=by intros; rfl
theorem zc8 (P:Prog) (C:Calls):∀ a l s,ev P C (.not a) l s=(ev P C a l s).bind fun v s=>(vn v s).bind fun b s=>.ok (.bool (!b)) s:=by intros; rfl
theorem lz (P:Prog) (C:Calls):∀ es l s,ev P C (.and es) l s=gx P C es l s:=by intros; rfl
theorem zb4 (P:Prog) (C:Calls):∀ es l s,ev P C (.or es) l s=im P C es l s:=by intros; rfl
theorem zlw (P:Prog) (C:Calls):∀ o a b l s,ev P C (.bin o a b) l s=(ev P C a l s).bind fun x s=>(ev P C b l s).bind fun y s=>wa o x y s:=by intros; rfl
theorem zci (P:Prog) (C:Calls):∀ a o b l s,ev P C (.cmp a o b) l s=(ev P C a l s).bind fun x s=>(ev P C b l s).bind fun y s=>cmpOp o x y s:=by intros; rfl
theorem sh (P:Prog) (C:Calls):∀ a o b o2 c l s,ev P C (.cmp2 a o b o2 c) l s=(ev P C a l s).bind fun x s=>(ev P C b l s).bind fun y s=>(cmpOp o x y s).bind fun v s=>(vn v s).bind fun t s =>
   if t then (ev P C c l s).bind fun z s=>cmpOp o2 y z s else .ok (.bool false) s:=by intros; rfl
theorem zcj (P:Prog) (C:Calls):∀ n a c l s,ev P C (.isC n a c) l s=(ev P C a l s).bind fun v s=>match c with
  | .none | .bool _=>.ok (.bool (decide (v=c) != n)) s
  | _=>.stuck:=by intros; rfl
theorem zkg (P:Prog) (C:Calls):∀ es l s,ev P C (.tup es) l s=(evL P C es l s).bind fun vs s=>if vs.length≤zf then .ok (.tup vs) s else .stuck:=by intros; rfl
theorem zls (P:Prog) (C:Calls):∀ es l s,ev P C (.lst es) l s=(evL P C es l s).bind fun vs s=>if vs.length≤zf then .ok (.lst vs) s else .stuck:=by intros; rfl
theorem zmv (P:Prog) (C:Calls):∀ k es l s,ev P C (.lstM k es) l s=(evL P C es l s).bind fun vs s=>if vs.length≤zf then .ok (.ref (k,s.cnt k)) (s.new k (.list vs)) else .stuck:=by intros; rfl
theorem zlt (P:Prog) (C:Calls):∀ k ks es l s,ev P C (.dictM k ks es) l s=(evL P C es l s).bind fun vs s=>if ks.length=vs.length∧ks.length≤15∧ks.Nodup then
   .ok (.ref (k,s.cnt k)) (s.new k (.dict ((ks.zip vs).map fun p=>(.str p.1,p.2)))) else .stuck:=by intros; rfl
theorem zjj (P:Prog) (C:Calls):∀ a b l s,ev P C (.sub a b) l s=(ev P C a l s).bind fun x s=>(ev P C b l s).bind fun y s=>getItem x y s:=by intros; rfl
theorem et (P:Prog) (C:Calls):∀ a lo hi l s,ev P C (.slice a lo hi) l s=(ev P C a l s).bind fun x s=>(evO P C lo l s).bind fun y s=>(evO P C hi l s).bind fun z s=>xu x y z s:=by intros; rfl
theorem zd0 (P:Prog) (C:Calls):∀ a i l s,ev P C (.attr a i) l s=(ev P C a l s).bind fun x s=>getAttr x i s:=by intros; rfl
theorem sg (P:Prog) (C:Calls):∀ f es l s,ev P C (.call f es) l s=(evL P C es l s).bind fun vs s=>C f vs s:=by intros; rfl
theorem ig (P:Prog) (C:Calls):∀ a m es l s,ev P C (.meth a m es) l s=(ev P C a l s).bind fun x s=>match yx P x m s with
  | some f=>(evL P C es l s).bind fun vs s=>C f (x :: vs) s
  | Option.none=>.stuck:=by intros; rfl
theorem zkw (P:Prog) (C:Calls):∀ c es l s,ev P C (.new c es) l s=(evL P C es l s).bind fun vs s=>xx P C c vs s:=by intros; rfl
theorem tl (P:Prog) (C:Calls):∀ a ks l s,ev P C (.isinst a ks) l s=(ev P C a l s).bind fun x s=>okB s (wy P s x ks):=by intros; rfl
theorem ss (P:Prog) (C:Calls):∀ p es l s,ev P C (.prim p es) l s=(evL P C es l s).bind fun vs s=>prim p vs s:=by intros; rfl
theorem em (P:Prog) (C:Calls):∀ k a l s,ev P C (.listM k a) l s=(ev P C a l s).bind fun x s=>match zv s x with
  | some (_,vs)=>.ok (.ref (k,s.cnt k)) (s.new k (.list vs))
  | Option.none=>.stuck:=by intros; rfl
theorem ey (P:Prog) (C:Calls):∀ k a l s,ev P C (.dictC k a) l s=(ev P C a l s).bind fun x s=>match x with
  | .ref r=>match s.heap r with
   | some (.dict d)=>if d.length≤1000 then .ok (.ref (k,s.cnt k)) (s.new k (.dict d)) else .stuck
   | _=>.stuck
  | _=>.stuck:=by intros; rfl
theorem zj0 (P:Prog) (C:Calls):∀ m a es l s,ev P C (.bm m a es) l s=(ev P C a l s).bind fun x s=>if za6 m x s then (evL P C es l s).bind fun vs s=>bq m x vs s else .stuck:=by intros; rfl
theorem lr (P:Prog) (C:Calls):∀ M slot range it cond elt l s,ev P C (.comp M slot range it cond elt) l s=(ev P C it l s).bind fun src s=>match z6 s range src with
  | some xs=>(compLoop s range src slot (evC P C cond) (ev P C elt) l [] xs s).bind fun vs s=>match M with
   | Option.none=>.ok (.lst vs) s
   | some k=>.ok (.ref (k,s.cnt k)) (s.new k (.list vs))
  | Option.none=>.stuck:=by intros; rfl
theorem zby (P:Prog) (C:Calls):∀ l s,evO P C Option.none l s=.ok Option.none s:=by intros; rfl
theorem zau (P:Prog) (C:Calls):∀ e l s,evO P C (some e) l s=(ev P C e l s).bind fun v s=>.ok (some v) s:=by intros; rfl
theorem sf (P:Prog) (C:Calls):∀ l s,evL P C [] l s=.ok [] s:=by intros; rfl
theorem ym (P:Prog) (C:Calls):∀ e r l s,evL P C (e :: r) l s=(ev P C e l s).bind fun v s=>(evL P C r l s).bind fun vs s=>.ok (v :: vs) s:=by intros; rfl
theorem yb (P:Prog) (C:Calls):∀ l s,gx P C [] l s=.stuck:=by intros; rfl
theorem vb (P:Prog) (C:Calls):∀ e l s,gx P C [e] l s=ev P C e l s:=by intros; rfl
theorem xe (P:Prog) (C:Calls):∀ e e' r l s,gx P C (e :: e' :: r) l s=(ev P C e l s).bind fun v s=>(vn v s).bind fun b s=>if b then gx P C (e' :: r) l s else .ok v s:=by intros; rfl
theorem y9 (P:Prog) (C:Calls):∀ l s,im P C [] l s=.stuck:=by intros; rfl
theorem yl (P:Prog) (C:Calls):∀ e l s,im P C [e] l s=ev P C e l s:=by intros; rfl
theorem kj (P:Prog) (C:Calls):∀ e e' r l s,im P C (e :: e' :: r) l s=(ev P C e l s).bind fun v s=>(vn v s).bind fun b s=>if b then .ok v s else im P C (e' :: r) l s:=by intros; rfl
theorem zd8 (P:Prog) (C:Calls) (n:Nat):∀ e l s,ex P C n (.expr e) l s=(ev P C e l s).bnd fun _ s=>.ok (.next,l) s:=by intros; rfl
theorem pn (P:Prog) (C:Calls) (n:Nat):∀ i e l s,ex P C n (.assign i e) l s=(ev P C e l s).bnd fun v s=>if i < l.length then .ok (.next,l.set i (some v)) s else .stuck:=by intros; rfl
theorem ly (P:Prog) (C:Calls) (n:Nat):∀ a i e l s,ex P C n (.setattr a i e) l s=(ev P C e l s).bnd fun v s=>(ev P C a l s).bnd fun x s=>(setAttr x i v s).bnd fun _ s=>.ok (.next,l) s:=by intros; rfl
theorem d0 (P:Prog) (C:Calls) (n:Nat):∀ a b e l s,ex P C n (.setitem a b e) l s=(ev P C e l s).bnd fun v s=>(ev P C a l s).bnd fun x s=>(ev P C b l s).bnd fun y s=>(setItem x y v s).bnd fun _ s=>.ok (.next,l) s:=by intros; rfl
theorem zix (P:Prog) (C:Calls) (n:Nat):∀ c b1 b2 l s,ex P C n (.ite c b1 b2) l s=(ev P C c l s).bnd fun v s=>(vn v s).bnd fun b s=>if b then exs P C n b1 l s else exs P C n b2 l s:=by intros; rfl
theorem zh6 (P:Prog) (C:Calls) (n:Nat):∀ ts range it body l s,ex P C n (.for_ ts range it body) l s=(ev P C it l s).bnd fun src s=>match z6 s range src with
  | some xs=>if ty ts range src s then jc s range src (u0 P C ts) (exs P C n body) xs l s else .stuck
  | Option.none=>.stuck:=by intros; rfl
theorem zbu (P:Prog) (C:Calls) (n:Nat):∀ c body l s,ex P C n (.while_ c body) l s=xq (ev P C c) (exs P C n body) n l s:=by intros; rfl
theorem zcb (P:Prog) (C:Calls) (n:Nat):∀ e l s,ex P C n (.ret e) l s=match e with
  | some e=>(ev P C e l s).bnd fun v s=>.ok (.ret v,l) s
  | Option.none=>.ok (.ret .none,l) s:=by intros; rfl
theorem zdv (P:Prog) (C:Calls) (n:Nat):∀ l s,exs P C n [] l s=.ok (.next,l) s:=by intros; rfl
theorem vj (P:Prog) (C:Calls) (n:Nat):∀ st r l s,exs P C n (st :: r) l s=(ex P C n st l s).bind fun p s=>match p.1 with
  | .next=>exs P C n r p.2 s
  | .ret v=>.ok (.ret v,p.2) s:=by intros; rfl
theorem byQ {A:Prop} (h:∀ Q:Prop,(A→Q)→Q):A:=h A id
end Mine
end
section
namespace Mine
open PySem PySem.W PyProof.Rows
set_option genCtorIdx false in
structure Tie where
 ρ:Lbl→Option Addr
 δ:Lbl→Option Addr
 pv:Addr→Prop
 wr:Nat
 st:List Env
noncomputable def Tie.Own (t:Tie) (a:Addr):Prop:=∃ l,t.ρ l=some a∨t.δ l=some a
noncomputable def Tie.Fr (t:Tie) (a:Addr):Prop:=t.pv a∧∃ e,e∈t.st∧e.frame=some a
noncomputable def Tie.Avoid (t:Tie) (a:Addr):Prop:=t.Own a∨t.pv a
set_option genCtorIdx false in
structure Tie.Le (t t':Tie):Prop where
 ρ:∀ l a,t.ρ l=some a→t'.ρ l=some a
 δ:∀ l a,t.δ l=some a→t'.δ l=some a
 pv:t'.pv=t.pv
 wr:t.wr≤t'.wr
 st:t'.st=t.st
theorem Tie.Le.refl (t:Tie):t.Le t:=⟨fun _ _ e=>e,fun _ _ e=>e,rfl,Nat.le_refl _,rfl⟩
theorem Tie.Le.fr {t t':Tie} (x:t.Le t') {a:Addr} (f:t'.Fr a):t.Fr a:=⟨x.pv ▸ f.1,x.st ▸ f.2⟩
theorem Tie.Le.fr' {t t':Tie} (x:t.Le t') {a:Addr} (f:t.Fr a):t'.Fr a:=⟨x.pv ▸ f.1,x.st ▸ f.2⟩
theorem Tie.Le.trans {t t' t'':Tie} (x:t.Le t') (y:t'.Le t''):t.Le t'':=⟨fun l a e=>y.ρ l a (x.ρ l a e),fun l a e=>y.δ l a (x.δ l a e),y.pv.trans x.pv,Nat.le_trans x.wr y.wr,y.st.trans x.st⟩
theorem Tie.Le.own {t t':Tie} (x:t.Le t') {a:Addr} (o:t.Own a):t'.Own a:=by
 obtain ⟨l,e | e⟩:=o
 ·exact ⟨l,.inl (x.ρ l a e)⟩
 ·exact ⟨l,.inr (x.δ l a e)⟩
noncomputable def PL (h:Heap) (a:Addr) (vs:Array Value):Prop:=∃ n,h.get? a=some { cls:=.type "list",data:=.seq vs n }
noncomputable def PT (h:Heap) (a:Addr) (vs:Array Value):Prop:=∃ n,h.get? a=some { cls:=.type "tuple",data:=.seq vs n }
theorem PL.isList {h:Heap}{a:Addr}{vs:Array Value} (x:PL h a vs):h.IsList a vs:=let ⟨n,e⟩:=x; ⟨_,e,rfl,n,rfl⟩
theorem PT.isTuple {h:Heap}{a:Addr}{vs:Array Value} (x:PT h a vs):h.IsTuple a vs:=let ⟨n,e⟩:=x; ⟨_,e,rfl,n,rfl⟩
theorem PT.isTup {h:Heap}{a:Addr}{vs:Array Value} (x:PT h a vs):IsTup h a vs:=let ⟨n,e⟩:=x; ⟨_,e,rfl,n,rfl⟩
mutual
noncomputable def VRel (t:Tie) (h:Heap):V→Value→Prop
 | .none,v=>v=.none
 | .bool b,v=>v=.bool b
 | .int i,v=>∃ k,v=.int i k
 | .str x,v=>∃ k,v=.str (Str.mk x.toArray) k
 | .tup l,v=>∃ a vs,v=.ref a∧PT h a vs∧¬ t.Avoid a∧l.length≤zf∧VRels t h l vs.toList
 | .lst l,v=>∃ a vs,v=.ref a∧PL h a vs∧¬ t.Avoid a∧l.length≤zf∧VRels t h l vs.toList
 | .ref l,v=>∃ a,v=.ref a∧t.ρ l=some a
 | .exc c,v=>∃ e o,v=.ref e∧h.get? e=some o∧o.cls=.ref c∧¬ t.Avoid e
noncomputable def VRels (t:Tie) (h:Heap):List V→List Value→Prop
 | [],vs=>vs=[]
 | x :: l,vs=>∃ v r,vs=v :: r∧VRel t h x v∧VRels t h l r
end
set_option genCtorIdx false in
structure Step (X:Addr→Prop) (t t':Tie) (s s':Shared):Prop where
 le:t.Le t'
 keepW:∀ a o,s.heap.get? a=some o→(t.Own a→t'.wr=t.wr)→¬ X a→¬ t.Fr a→s'.heap.get? a=some o
 slots:∀ a o,s.heap.get? a=some o→¬ t.Own a→¬ X a→t.Fr a→∃ sl,s'.heap.get? a=some { o with slots:=sl }
 new:∀ a,t'.Own a→t.Own a∨s.heap.get? a=none
 live:∀ a o,s.heap.get? a=some o→(s'.heap.get? a).isSome=true
 gens:s'.gens=s.gens
 os:s'.os=s.os
theorem Step.refl (X:Addr→Prop) (t:Tie) (s:Shared):Step X t t s s:=⟨.refl t,fun _ _ e _ _ _=>e,fun _ o e _ _ _=>⟨o.slots,e⟩,fun _ o=>.inl o,fun _ _ e=>by rw [e]; rfl,rfl,rfl⟩
theorem Step.keep {X:Addr→Prop}{t t':Tie}{s s':Shared} (x:Step X t t' s s') (a:Addr) (o:Obj) (e:s.heap.get? a=some o) (n:¬ t.Own a) (nx:¬ X a) (nf:¬ t.Fr a):s'.heap.get? a=some o:=x.keepW a o e (fun q=>(n q).elim) nx nf
theorem Step.trans {X:Addr→Prop}{t t' t'':Tie}{s s' s'':Shared} (x:Step X t t' s s') (y:Step X t' t'' s' s''):Step X t t'' s s'' where
 le:=x.le.trans y.le
 keepW a o e n nx nf:=by
  have sq:t.Own a→t'.wr=t.wr∧t''.wr=t'.wr:=fun q=>by have:=n q; have:=x.le.wr; have:=y.le.wr; lia
  exact y.keepW a o (x.keepW a o e (fun q=>(sq q).1) nx nf) (fun q=>(x.new a q).elim (fun q=>(sq q).2) fun z=>by rw [e] at z; cases z) nx fun q=>nf (x.le.fr q)
 slots a o e n nx f:=by
  obtain ⟨sl,e1⟩:=x.slots a o e n nx f
  obtain ⟨sl2,e2⟩:=y.slots a _ e1 (fun q=>(x.new a q).elim n fun z=>by rw [e] at z; cases z) nx (x.le.fr' f)
  exact ⟨sl2,e2⟩
 new a o:=(y.new a o).elim (x.new a) fun z=>by
  cases q:s.heap.get? a with
  | none=>exact .inr rfl
  | some ob =>
   have:=x.live a ob q
   rw [z] at this; exact qg this
 live a o e:=by
  have:=x.live a o e
  obtain ⟨o',e'⟩:=Option.isSome_iff_exists.mp this
  exact y.live a o' e'
 gens:=y.gens.trans x.gens
 os:=y.os.trans x.os
theorem Step.mono {X Y:Addr→Prop}{t t':Tie}{s s':Shared} (x:Step X t t' s s') (xy:∀ a,X a→Y a):Step Y t t' s s':=⟨x.le,fun a o e n ny=>x.keepW a o e n fun q=>ny (xy a q),fun a o e n ny=>x.slots a o e n fun q=>ny (xy a q),x.new,x.live,x.gens,x.os⟩
noncomputable def noX:Addr→Prop:=fun _=>False
mutual
theorem VRel.map {t t':Tie}{h h':Heap} (hρ:∀ l a,t.ρ l=some a→t'.ρ l=some a) (k:∀ a o,¬ t.Avoid a→h.get? a=some o→h'.get? a=some o∧¬ t'.Avoid a):∀ (x:V) {v:Value},VRel t h x v→VRel t' h' x v
 | .none,_,e=>e
 | .bool _,_,e=>e
 | .int _,_,e=>e
 | .str _,_,e=>e
 | .tup l,_,⟨a,vs,e,⟨n,ho⟩,na,sz,r⟩=>⟨a,vs,e,⟨n,(k a _ na ho).1⟩,(k a _ na ho).2,sz,VRels.map hρ k l r⟩
 | .lst l,_,⟨a,vs,e,⟨n,ho⟩,na,sz,r⟩=>⟨a,vs,e,⟨n,(k a _ na ho).1⟩,(k a _ na ho).2,sz,VRels.map hρ k l r⟩
 | .ref l,_,⟨a,e,r⟩=>⟨a,e,hρ l a r⟩
 | .exc _,_,⟨e,o,h1,h2,h3,h4⟩=>⟨e,o,h1,(k e o h4 h2).1,h3,(k e o h4 h2).2⟩
theorem VRels.map {t t':Tie}{h h':Heap} (hρ:∀ l a,t.ρ l=some a→t'.ρ l=some a) (k:∀ a o,¬ t.Avoid a→h.get? a=some o→h'.get? a=some o∧¬ t'.Avoid a):∀ (l:List V) {vs:List Value},VRels t h l vs→VRels t' h' l vs
 | [],_,e=>e
 | x :: l,_,⟨v,r,e,a,b⟩=>⟨v,r,e,VRel.map hρ k x a,VRels.map hρ k l b⟩
end
theorem Step.val {X:Addr→Prop}{t t':Tie}{σ σ':Shared} (s:Step X t t' σ σ') (xp:∀ a,X a→t.pv a) (a:Addr) (o:Obj) (na:¬ t.Avoid a) (ho:σ.heap.get? a=some o):σ'.heap.get? a=some o∧¬ t'.Avoid a :=
 ⟨s.keep a o ho (fun q=>na (.inl q)) (fun q=>na (.inr (xp a q))) (fun q=>na (.inr q.1)),fun q=>q.elim (fun q=>(s.new a q).elim (fun q=>na (.inl q)) fun z=>by rw [ho] at z; cases z) (fun q=>na (.inr (by rw [s.le.pv] at q; exact q)))⟩
theorem VRel.step {X:Addr→Prop}{t t':Tie}{σ σ':Shared} (s:Step X t t' σ σ') (xp:∀ a,X a→t.pv a) (x:V) {v:Value} (r:VRel t σ.heap x v):VRel t' σ'.heap x v:=VRel.map s.le.ρ (s.val xp) x r
theorem VRels.step {X:Addr→Prop}{t t':Tie}{σ σ':Shared} (s:Step X t t' σ σ') (xp:∀ a,X a→t.pv a) (l:List V) {vs:List Value} (r:VRels t σ.heap l vs):VRels t' σ'.heap l vs:=VRels.map s.le.ρ (s.val xp) l r
noncomputable def Tie.hideS (t:Tie) (P:Addr→Prop) (l:List Env):Tie:={ t with pv:=fun a=>t.pv a∨P a,st:=l }
noncomputable abbrev Tie.hide (t:Tie) (P:Addr→Prop):Tie:=t.hideS P t.st
theorem Tie.hid {t:Tie}{h:Heap}{P:Addr→Prop}{l:List Env} (np:∀ a,P a→h.get? a=none) (a:Addr) (o:Obj) (na:¬ t.Avoid a) (ho:h.get? a=some o):h.get? a=some o∧¬ (t.hideS P l).Avoid a :=
 ⟨ho,fun q=>Or.elim q (fun q=>na (.inl q)) fun q=>Or.elim q (fun q=>na (.inr q)) fun q=>absurd ((np a q).symm.trans ho) nofun⟩
theorem VRel.hide {t:Tie}{h:Heap}{P:Addr→Prop}{l:List Env} (np:∀ a,P a→h.get? a=none) (x:V) {v:Value} (r:VRel t h x v):VRel (t.hideS P l) h x v:=VRel.map (t:=t) (t':=t.hideS P l) (fun _ _ e=>e) (Tie.hid np) x r
theorem VRels.hide {t:Tie}{h:Heap}{P:Addr→Prop}{k:List Env} (np:∀ a,P a→h.get? a=none) (l:List V) {vs:List Value} (r:VRels t h l vs):VRels (t.hideS P k) h l vs:=VRels.map (t:=t) (t':=t.hideS P k) (fun _ _ e=>e) (Tie.hid np) l r
theorem VRels.length {t:Tie}{h:Heap}:∀ {l:List V}{vs:List Value},VRels t h l vs→vs.length=l.length
 | [],_,e=>by cases e; rfl
 | _ :: l,_,⟨v,r,e,_,b⟩=>by subst e; simp [VRels.length b]
theorem VRels.append {t:Tie}{h:Heap}:∀ {l m:List V}{vs ws:List Value},VRels t h l vs→VRels t h m ws→VRels t h (l ++ m) (vs ++ ws)
 | [],_,_,_,e,b=>by cases e; exact b
 | _ :: _,_,_,_,⟨v,r,e,a,c⟩,b=>by subst e; exact ⟨v,_,rfl,a,VRels.append c b⟩
theorem VRels.get {t:Tie}{h:Heap}:∀ {l:List V}{vs:List Value}{i:Nat}{x:V},VRels t h l vs→l[i]?=some x→∃ v,vs[i]?=some v∧VRel t h x v
 | x :: l,_,0,_,⟨v,r,e,a,b⟩,q=>by subst e; cases q; exact ⟨v,rfl,a⟩
 | x :: l,_,i + 1,_,⟨v,r,e,a,b⟩,q=>by subst e; exact VRels.get (l:=l) (vs:=r) b q
theorem VRels.take {t:Tie}{h:Heap}:∀ {l:List V}{vs:List Value} (n:Nat),VRels t h l vs→VRels t h (l.take n) (vs.take n)
 | [],_,n,e=>by cases e; simp [VRels]
 | x :: l,_,0,_=>rfl
 | x :: l,_,n + 1,⟨v,r,e,a,b⟩=>by subst e; exact ⟨v,_,rfl,a,VRels.take n b⟩
theorem VRels.drop {t:Tie}{h:Heap}:∀ {l:List V}{vs:List Value} (n:Nat),VRels t h l vs→VRels t h (l.drop n) (vs.drop n)
 | [],_,n,e=>by cases e; simp [VRels]
 | x :: l,vs,0,r=>r
 | x :: l,_,n + 1,⟨v,r,e,a,b⟩=>by subst e; exact VRels.drop n b
theorem VRels.set {t:Tie}{h:Heap}:∀ {l:List V}{vs:List Value} (i:Nat) {x:V}{v:Value},VRels t h l vs→VRel t h x v→VRels t h (l.set i x) (vs.set i v)
 | [],_,i,_,_,e,_=>by cases e; simp [VRels]
 | y :: l,_,0,_,_,⟨v,r,e,a,b⟩,q=>by subst e; exact ⟨_,_,rfl,q,b⟩
 | y :: l,_,i + 1,_,_,⟨v,r,e,a,b⟩,q=>by subst e; exact ⟨v,_,rfl,a,VRels.set i b q⟩
theorem VRels.eraseIdx {t:Tie}{h:Heap}:∀ {l:List V}{vs:List Value} (i:Nat),VRels t h l vs→VRels t h (l.eraseIdx i) (vs.eraseIdx i)
 | [],_,i,e=>by cases e; simp [VRels]
 | y :: l,_,0,⟨v,r,e,a,b⟩=>by subst e; exact b
 | y :: l,_,i + 1,⟨v,r,e,a,b⟩=>by subst e; exact ⟨v,_,rfl,a,VRels.eraseIdx i b⟩
end Mine
end
section
namespace Mine
end Mine
end
section
namespace Mine
open PySem PySem.W PyProof.Rows
set_option genCtorIdx false in
structure Gd where
 prog:Program
 w:World
 K:Frag
 mg:PySem.Str→Option Value
 mb:PySem.Str→Option Value
 h₀:Heap
 P:Prog
 fa:Nat→Option Addr
 ca:Nat→Option Addr
 an:Nat→PySem.Str
noncomputable abbrev Gd.M (G:Gd):Model:=model G.prog G.w
noncomputable abbrev qh (x:List Nat):PySem.Str:=Str.mk x.toArray
noncomputable def DRel (t:Tie) (h:Heap):List (V×V)→List (PySem.Str×Value)→Prop
 | [],kvs=>kvs=[]
 | (k,v) :: r,kvs=>∃ x y rest,k=.str x∧kvs=(qh x,y) :: rest∧VRel t h v y∧DRel t h r rest
noncomputable def zi4 (G:Gd) (t:Tie) (h:Heap) (as:List (Nat×V)) (m:PySem.Str→Option Value):Prop :=
 (∀ i v,vt i as=some v→∃ y,m (G.an i)=some y∧VRel t h v y)∧∀ x y,m x=some y→∃ i v,x=G.an i∧vt i as=some v
noncomputable def NsZ (h:Heap) (a:Addr) (m:PySem.Str→Option Value) (n:Nat):Prop :=
 ∃ o es ep,h.get? a=some o∧o.data=.dict es ep∧StrKeys es∧(∀ name,nsFind es name=m name)∧es.size≤n
theorem NsZ.ns {h:Heap}{a:Addr}{m:PySem.Str→Option Value}{n:Nat} (x:NsZ h a m n):h.Ns a m:=let ⟨o,es,ep,h1,h2,h3,h4,_⟩:=x; ⟨o,es,ep,h1,h2,h3,h4⟩
theorem af {M:Model}{A:Around}{E:Value→Shared→Prop}{s:Shared}{a:Addr}{m:PySem.Str→Option Value}{n:Nat}{name:PySem.Str}{v:Value}{Q:Unit→Shared→Prop} (hn:NsZ s.heap a m n)
  (h:∀ h',NsZ h' a (fun x=>if x=name then some v else m x) (if (m name).isSome then n else n + 1)→Heap.SameBut a s.heap h'→Q () { s with heap:=h',toks:=s.toks + 1 }) :
  wpAny M A (nsSet a name v) Q E s:=by
 obtain ⟨o,es,ep,ho,hd,hk,hm,hz⟩:=hn
 have hany:es.any (·.refKey)=false:=by
  rw [Array.any_eq_false']; intro e he; obtain ⟨n,t,h⟩:=hk e he; simp [DictEntry.refKey,h]
 unfold nsSet
 refine wpAny_bind (wpAny_bind (wpAny_askSetting (wpAny_pure (wpAny_bind (wpAny_mkText (wpAny_bind (wpAny_loadPart (s:={ s with toks:=s.toks + 1 }) ho ?_)))))))
 rw [hd]
 dsimp only
 rw [aRefKeyMayBeTheName_at,hany,Bool.and_false]
 refine wpAny_updatePart (s:={ s with toks:=s.toks + 1 }) ho ?_
 refine h _ ?_ (Heap.SameBut.update ..)
 obtain ⟨c,d,dt,sl⟩:=o
 subst hd
 have hfind:=hm name
 unfold nsFind at hfind
 rw [findBy_of_findIdx?] at hfind
 cases hi:es.findIdx? (·.key.isStr name) with
 | some i =>
  have hlt:i < es.size:=(Array.findIdx?_eq_some_iff_getElem.mp hi).1
  have hsome:(m name).isSome=true:=by
   rw [← hfind,hi]; simp [hlt]
  have hif:(if (m name).isSome=true then n else n + 1)=n:=by rw [hsome]; rfl
  rw [hif]
  refine ⟨_,_,ep,Heap.get?_update_self _ ho (by simp only [Obj.putName_eq,Obj.putNameByArray,hi]; rfl),by simp only [Obj.putName_eq,Obj.putNameByArray,hi]; rfl,hk.modify _ _,fun x=>?_,by rw [Array.size_modify]; exact hz⟩
  show _=if x=name then some v else m x
  rw [← hm]; exact findBy_modify (fun n v=>v.isStr n) Value.isStr_inj es name x v i hi
 | none =>
  have hnone:(m name).isSome=false:=by rw [← hfind,hi]; rfl
  have hif:(if (m name).isSome=true then n else n + 1)=n + 1:=by rw [hnone]; rfl
  rw [hif]
  refine ⟨_,_,ep + 1,Heap.get?_update_self _ ho (by simp only [Obj.putName_eq,Obj.putNameByArray,hi]; rfl),by simp only [Obj.putName_eq,Obj.putNameByArray,hi]; rfl,hk.push _ _ _ _,fun x=>?_,by rw [Array.size_push]; lia⟩
  show _=if x=name then some v else m x
  rw [← hm]
  exact findBy_push (fun n v=>v.isStr n) es name x _ _ v (fun y=>by
   show (name == y)=decide (y=name)
   by_cases q:y=name
   ·subst q; simp
   ·have:¬ name=y:=fun z=>q z.symm
    simp [q,this]) hi
noncomputable def ObjOk (G:Gd) (t:Tie) (h:Heap) (l:Lbl):MObj→Prop
 | .list xs=>∃ a vs,t.ρ l=some a∧PL h a vs∧xs.length≤zf∧VRels t h xs vs.toList
 | .dict d=>∃ a kvs,t.ρ l=some a∧h.DictOf (strKind G.prog G.w) a kvs∧DRel t h d kvs
 | .tdict _=>False
 | .inst c as=>∃ a d C m,t.ρ l=some a∧t.δ l=some d∧G.ca c=some C∧h.get? a=some (instObj C d)∧NsZ h d m as.length∧zi4 G t h as m
set_option genCtorIdx false in
structure Rel (G:Gd) (t:Tie) (st:MS) (s:Shared):Prop where
 base:∀ b o,G.h₀.get? b=some o→s.heap.get? b=some o
 apart:∀ a,t.Avoid a→G.h₀.get? a=none
 live:∀ a,t.Avoid a→(s.heap.get? a).isSome=true
 pv:∀ a,t.pv a→¬ t.Own a
 injρ:∀ l l' a,t.ρ l=some a→t.ρ l'=some a→l=l'
 injδ:∀ l l' a,t.δ l=some a→t.δ l'=some a→l=l'
 two:∀ l l' a,t.ρ l=some a→t.δ l'=some a→False
 objs:∀ l o,st.heap l=some o→ObjOk G t s.heap l o
 cnt:∀ k i,st.cnt k≤i→t.ρ (k,i)=none∧t.δ (k,i)=none∧st.heap (k,i)=none
 sys:∀ l,t.ρ l≠some sysModules
 wr:t.wr=st.wr
theorem DRel.map {t t':Tie}{h h':Heap} (k:∀ (x:V) {v:Value},VRel t h x v→VRel t' h' x v):∀ {d:List (V×V)}{kvs:List (PySem.Str×Value)},DRel t h d kvs→DRel t' h' d kvs
 | [],_,e=>e
 | (_,v) :: _,_,⟨x,y,r,e1,e2,a,b⟩=>⟨x,y,r,e1,e2,k v a,DRel.map k b⟩
theorem DRel.step {X:Addr→Prop}{t t':Tie}{σ σ':Shared} (s:Step X t t' σ σ') (xp:∀ a,X a→t.pv a) {d:List (V×V)}{kvs:List (PySem.Str×Value)} (r:DRel t σ.heap d kvs):DRel t' σ'.heap d kvs:=DRel.map (VRel.step s xp) r
theorem ObjOk.map {G:Gd}{t t':Tie}{h h':Heap}{l:Lbl} (hρ:∀ l a,t.ρ l=some a→t'.ρ l=some a) (hδ:∀ l a,t.δ l=some a→t'.δ l=some a) (k:∀ a o,¬ t.Avoid a→h.get? a=some o→h'.get? a=some o∧¬ t'.Avoid a)
  (same:∀ a o,(t.ρ l=some a∨t.δ l=some a)→h.get? a=some o→h'.get? a=some o) {o:MObj} (r:ObjOk G t h l o):ObjOk G t' h' l o:=by
 cases o with
 | list=>obtain ⟨a,vs,e,⟨n,ho⟩,sz,b⟩:=r; exact ⟨a,vs,hρ l a e,⟨n,same a _ (.inl e) ho⟩,sz,VRels.map hρ k _ b⟩
 | dict=>obtain ⟨a,kvs,e,⟨o,es,ep,ho,r⟩,b⟩:=r; exact ⟨a,kvs,hρ l a e,⟨o,es,ep,same a o (.inl e) ho,r⟩,DRel.map (VRel.map hρ k) b⟩
 | tdict=>exact r.elim
 | inst =>
  obtain ⟨a,d,C,m,e,f,c,ho,⟨od,es,ep,hd,r⟩,b⟩:=r
  exact ⟨a,d,C,m,hρ l a e,hδ l d f,c,same a _ (.inl e) ho,⟨od,es,ep,same d _ (.inr f) hd,r⟩,fun i v e=>let ⟨y,e1,e2⟩:=b.1 i v e; ⟨y,e1,VRel.map hρ k v e2⟩,b.2⟩
theorem ObjOk.step {G:Gd}{X:Addr→Prop}{t t':Tie}{σ σ':Shared}{l:Lbl} (s:Step X t t' σ σ') (xp:∀ a,X a→t.pv a)
  (same:∀ a o,(t.ρ l=some a∨t.δ l=some a)→σ.heap.get? a=some o→σ'.heap.get? a=some o) {o:MObj} (r:ObjOk G t σ.heap l o):ObjOk G t' σ'.heap l o:=ObjOk.map s.le.ρ s.le.δ (s.val xp) same r
section
variable {G:Gd}{t:Tie}{st:MS}{s:Shared}
theorem Rel.fresh (R:Rel G t st s) {a:Addr} (e:s.heap.get? a=none):¬ t.Avoid a:=fun q=>by
 have:=R.live a q; rw [e] at this; exact qg this
theorem Step.grow (_R:Rel G t st s) {s':Shared} (hk:∀ b o,s.heap.get? b=some o→s'.heap.get? b=some o) (hg:s'.gens=s.gens) (ho:s'.os=s.os):Step noX t t s s' :=
 ⟨.refl t,fun a o e _ _ _=>hk a o e,fun a o e _ _ _=>⟨o.slots,hk a o e⟩,fun _ o=>.inl o,fun a o e=>by rw [hk a o e]; rfl,hg,ho⟩
theorem Rel.grow (R:Rel G t st s) {s':Shared} (hk:∀ b o,s.heap.get? b=some o→s'.heap.get? b=some o) (hg:s'.gens=s.gens) (ho:s'.os=s.os):Rel G t st s' where
 base b o e:=hk b o (R.base b o e)
 apart:=R.apart
 live a q:=by obtain ⟨o,e⟩:=Option.isSome_iff_exists.mp (R.live a q); rw [hk a o e]; rfl
 pv:=R.pv
 injρ:=R.injρ
 injδ:=R.injδ
 two:=R.two
 objs l o e:=(R.objs l o e).step (Step.grow R hk hg ho) (fun _ x=>x.elim) fun a o _ e=>hk a o e
 cnt:=R.cnt
 sys:=R.sys
 wr:=R.wr
theorem Rel.toks (R:Rel G t st s) (n:Nat):Rel G t st { s with toks:=n }:=R.grow (fun _ _ e=>e) rfl rfl
theorem Step.toks (X:Addr→Prop) (t:Tie) (s:Shared) (n:Nat):Step X t t s { s with toks:=n }:=⟨.refl t,fun _ _ e _ _ _=>e,fun _ o e _ _ _=>⟨o.slots,e⟩,fun _ o=>.inl o,fun _ _ e=>by show (s.heap.get? _).isSome=true; rw [e]; rfl,rfl,rfl⟩
noncomputable def Tie.tick (t:Tie):Tie:={ t with wr:=t.wr + 1 }
theorem Step.upd {a:Addr}{h':Heap}{tk:Nat} (own:t.Own a) (hl:(h'.get? a).isSome=true) (hs:Heap.SameBut a s.heap h'):Step noX t t.tick s { s with heap:=h',toks:=tk } :=
 ⟨⟨fun _ _ e=>e,fun _ _ e=>e,rfl,Nat.le_succ _,rfl⟩,fun b o e n _ _=>(hs.2 b fun (q:b=a)=>Nat.succ_ne_self _ (n (q ▸ own))).trans e,fun b o e n _ _=>⟨o.slots,(hs.2 b fun (q:b=a)=>n (q ▸ own)).trans e⟩,fun _ o=>.inl o,fun b o e=>by
  by_cases q:b=a
  ·subst q; exact hl
  ·show (h'.get? b).isSome=true; rw [hs.2 b q,e]; rfl,rfl,rfl⟩
theorem Rel.upd (R:Rel G t st s) {l:Lbl}{a:Addr}{h':Heap}{tk:Nat}{o:MObj} (own:t.ρ l=some a∨t.δ l=some a) (hl:(h'.get? a).isSome=true) (hs:Heap.SameBut a s.heap h') (hn:st.heap l≠none)
  (ho:ObjOk G t.tick h' l o):Rel G t.tick (st.put l o) { s with heap:=h',toks:=tk } where
 base b ob e:=(hs.2 b fun (q:b=a)=>by rw [q,R.apart a (.inl ⟨l,own⟩)] at e; exact za e).trans (R.base b ob e)
 apart:=R.apart
 live b q:=by
  by_cases z:b=a
  ·subst z; exact hl
  ·show (h'.get? b).isSome=true; rw [hs.2 b z]; exact R.live b q
 pv:=R.pv
 injρ:=R.injρ
 injδ:=R.injδ
 two:=R.two
 objs l' o' e:=by
  unfold MS.put at e
  dsimp only at e
  by_cases z:l'=l
  ·rw [if_pos z] at e; cases e; subst z; exact ho
  ·rw [if_neg z] at e
   refine (R.objs l' o' e).step (Step.upd ⟨l,own⟩ hl hs) (fun _ x=>x.elim) fun b ob hb eb=>(hs.2 b fun (q:b=a)=>z ?_).trans eb
   subst q
   rcases hb with hb | hb <;> rcases own with ow | ow
   ·exact R.injρ l' l b hb ow
   ·exact (R.two l' l b hb ow).elim
   ·exact (R.two l l' b ow hb).elim
   ·exact R.injδ l' l b hb ow
 cnt k i e:=by
  obtain ⟨c1,c2,c3⟩:=R.cnt k i e
  refine ⟨c1,c2,?_⟩
  show (if (k,i)=l then some o else st.heap (k,i))=none
  rw [if_neg (fun (q:(k,i)=l)=>hn (by rw [← q]; exact c3)),c3]
 sys:=R.sys
 wr:=congrArg Nat.succ R.wr
noncomputable def Tie.bind (t:Tie) (l:Lbl) (a:Addr) (d:Option Addr):Tie:={ t with ρ:=fun x=>if x=l then some a else t.ρ x,δ:=fun x=>if x=l then d else t.δ x }
theorem Step.bind {k:Nat}{a:Addr}{d:Option Addr}{s':Shared} (R:Rel G t st s) (hk:∀ b o,s.heap.get? b=some o→s'.heap.get? b=some o) (hg:s'.gens=s.gens) (ho:s'.os=s.os)
  (fa:s.heap.get? a=none) (fd:∀ x,d=some x→s.heap.get? x=none):Step noX t (t.bind (k,st.cnt k) a d) s s' where
 le:=⟨fun l b e=>by
   obtain ⟨c1,_,_⟩:=R.cnt k _ (Nat.le_refl _)
   show (if l=(k,st.cnt k) then some a else t.ρ l)=some b
   rw [if_neg (fun q=>by rw [q,c1] at e; exact za e)]; exact e,
  fun l b e=>by
   obtain ⟨_,c2,_⟩:=R.cnt k _ (Nat.le_refl _)
   show (if l=(k,st.cnt k) then d else t.δ l)=some b
   rw [if_neg (fun q=>by rw [q,c2] at e; exact za e)]; exact e,rfl,Nat.le_refl _,rfl⟩
 keepW b o e _ _ _:=hk b o e
 slots b o e _ _ _:=⟨o.slots,hk b o e⟩
 new b:=by
  rintro ⟨l,e | e⟩
  ·change (if l=(k,st.cnt k) then some a else t.ρ l)=some b at e
   split at e
   ·cases e; exact .inr fa
   ·exact .inl ⟨l,.inl e⟩
  ·change (if l=(k,st.cnt k) then d else t.δ l)=some b at e
   split at e
   ·exact .inr (fd b e)
   ·exact .inl ⟨l,.inr e⟩
 live b o e:=by rw [hk b o e]; rfl
 gens:=hg
 os:=ho
theorem Rel.bind {k:Nat}{a:Addr}{d:Option Addr}{s':Shared}{o:MObj} (R:Rel G t st s) (hk:∀ b o,s.heap.get? b=some o→s'.heap.get? b=some o) (hg:s'.gens=s.gens) (ho:s'.os=s.os)
  (fa:s.heap.get? a=none) (fd:∀ x,d=some x→s.heap.get? x=none∧x≠a∧(s'.heap.get? x).isSome=true) (la:(s'.heap.get? a).isSome=true) (hsys:a≠sysModules)
  (hO:ObjOk G (t.bind (k,st.cnt k) a d) s'.heap (k,st.cnt k) o):Rel G (t.bind (k,st.cnt k) a d) (st.new k o) s':=by
 have S:=Step.bind (k:=k) (d:=d) R hk hg ho fa fun x e=>(fd x e).1
 have c:=R.cnt k _ (Nat.le_refl _)
 have nr:∀ {l:Lbl}{b:Addr},(t.bind (k,st.cnt k) a d).ρ l=some b→(l=(k,st.cnt k)∧b=a)∨(l≠(k,st.cnt k)∧t.ρ l=some b):=fun {l b} e=>by
  change (if l=(k,st.cnt k) then some a else t.ρ l)=some b at e
  split at e
  ·rename_i q; cases e; exact .inl ⟨q,rfl⟩
  ·rename_i q; exact .inr ⟨q,e⟩
 have nd:∀ {l:Lbl}{b:Addr},(t.bind (k,st.cnt k) a d).δ l=some b→(l=(k,st.cnt k)∧d=some b)∨(l≠(k,st.cnt k)∧t.δ l=some b):=fun {l b} e=>by
  change (if l=(k,st.cnt k) then d else t.δ l)=some b at e
  split at e
  ·rename_i q; exact .inl ⟨q,e⟩
  ·rename_i q; exact .inr ⟨q,e⟩
 have na:¬ t.Avoid a:=R.fresh fa
 have nx:∀ x,d=some x→¬ t.Avoid x:=fun x e=>R.fresh (fd x e).1
 refine ⟨fun b ob e=>hk b ob (R.base b ob e),?_,?_,?_,?_,?_,?_,?_,?_,fun l e=>by rcases nr e with ⟨_,z⟩ | ⟨_,z⟩; exact hsys z.symm; exact R.sys l z,R.wr⟩
 ·rintro b (⟨l,e | e⟩ | e)
  ·rcases nr e with ⟨_,rfl⟩ | ⟨_,e⟩
   ·cases q:G.h₀.get? b with
    | none=>rfl
    | some ob=>rw [R.base b ob q] at fa; cases fa
   ·exact R.apart b (.inl ⟨l,.inl e⟩)
  ·rcases nd e with ⟨_,e⟩ | ⟨_,e⟩
   ·cases q:G.h₀.get? b with
    | none=>rfl
    | some ob=>have:=(fd b e).1; rw [R.base b ob q] at this; cases this
   ·exact R.apart b (.inl ⟨l,.inr e⟩)
  ·exact R.apart b (.inr e)
 ·rintro b (⟨l,e | e⟩ | e)
  ·rcases nr e with ⟨_,rfl⟩ | ⟨_,e⟩
   ·exact la
   ·obtain ⟨ob,q⟩:=Option.isSome_iff_exists.mp (R.live b (.inl ⟨l,.inl e⟩)); rw [hk b ob q]; rfl
  ·rcases nd e with ⟨_,e⟩ | ⟨_,e⟩
   ·exact (fd b e).2.2
   ·obtain ⟨ob,q⟩:=Option.isSome_iff_exists.mp (R.live b (.inl ⟨l,.inr e⟩)); rw [hk b ob q]; rfl
  ·obtain ⟨ob,q⟩:=Option.isSome_iff_exists.mp (R.live b (.inr e)); rw [hk b ob q]; rfl
 ·rintro b p ⟨l,e | e⟩
  ·rcases nr e with ⟨_,rfl⟩ | ⟨_,e⟩
   ·exact na (.inr p)
   ·exact R.pv b p ⟨l,.inl e⟩
  ·rcases nd e with ⟨_,e⟩ | ⟨_,e⟩
   ·exact nx b e (.inr p)
   ·exact R.pv b p ⟨l,.inr e⟩
 ·intro l l' b e e'
  rcases nr e with ⟨q1,z1⟩ | ⟨_,e1⟩ <;> rcases nr e' with ⟨q,z⟩ | ⟨_,e2⟩
  ·exact q1.trans q.symm
  ·exact (na (.inl ⟨l',.inl (z1 ▸ e2)⟩)).elim
  ·exact (na (.inl ⟨l,.inl (z ▸ e1)⟩)).elim
  ·exact R.injρ l l' b e1 e2
 ·intro l l' b e e'
  rcases nd e with ⟨q1,z1⟩ | ⟨_,e1⟩ <;> rcases nd e' with ⟨q,z⟩ | ⟨_,e2⟩
  ·exact q1.trans q.symm
  ·exact (nx b z1 (.inl ⟨l',.inr e2⟩)).elim
  ·exact (nx b z (.inl ⟨l,.inr e1⟩)).elim
  ·exact R.injδ l l' b e1 e2
 ·intro l l' b e e'
  rcases nr e with ⟨q1,z1⟩ | ⟨_,e1⟩ <;> rcases nd e' with ⟨q,z⟩ | ⟨_,e2⟩
  ·exact (fd b z).2.1 z1
  ·exact na (.inl ⟨l',.inr (z1 ▸ e2)⟩)
  ·exact nx b z (.inl ⟨l,.inl e1⟩)
  ·exact R.two l l' b e1 e2
 ·intro l o' e
  change (if l=(k,st.cnt k) then some o else st.heap l)=some o' at e
  split at e
  ·rename_i q; cases e; subst q; exact hO
  ·exact (R.objs l o' e).step S (fun _ x=>x.elim) fun b ob _ e=>hk b ob e
 ·intro k' i e
  change (if k'=k then st.cnt k + 1 else st.cnt k')≤i at e
  have ne:(k',i)≠(k,st.cnt k):=fun q=>by
   cases q; rw [if_pos rfl] at e; lia
  have le:st.cnt k'≤i:=by
   by_cases q:k'=k
   ·subst q; rw [if_pos rfl] at e; lia
   ·rw [if_neg q] at e; exact e
  obtain ⟨c1,c2,c3⟩:=R.cnt k' i le
  refine ⟨?_,?_,?_⟩
  ·show (if (k',i)=(k,st.cnt k) then some a else t.ρ (k',i))=none
   rw [if_neg ne]; exact c1
  ·show (if (k',i)=(k,st.cnt k) then d else t.δ (k',i))=none
   rw [if_neg ne]; exact c2
  ·show (if (k',i)=(k,st.cnt k) then some o else st.heap (k',i))=none
   rw [if_neg ne]; exact c3
end
end Mine
end
section
namespace Mine
open PySem PySem.W PyProof.Rows
set_option genCtorIdx false in
structure Names where
 fn:Nat→PySem.Str
 cls:Nat→PySem.Str
 meth:Nat→PySem.Str
 attr:Nat→PySem.Str
 exc:Nat→PySem.Str
 gi:List (PySem.Str×Int)
 gs:List (PySem.Str×List Nat)
 xs:List (PySem.Str×Nat)
 xf:Nat→Bool
 xm:Nat→Bool
 qf:Nat→Bool
noncomputable abbrev Sc:=List (PySem.Str×NameKind)
noncomputable abbrev Gam:=List (Option PySem.Str)
noncomputable def k8 (sc:Sc) (x:PySem.Str):Bool:=sc.lookup x == some .globalImplicit && x != ("__debug__":PySem.Str)
noncomputable def d8:Kind→Option PySem.Str
 | .int=>some "int"
 | .bool=>some "bool"
 | .str=>some "str"
 | .list=>some "list"
 | .tuple=>some "tuple"
 | .valueError=>some "ValueError"
 | .cls _=>none
noncomputable def gc (N:Names) (sc:Sc) (k:Kind) (y:PySem.Expr):Bool:=match y with
 | .Name x _=>d8 k == some x && k8 sc x
 | _=>false
noncomputable def uw (N:Names) (sc:Sc):List Kind→List PySem.Expr→Bool
 | [],[]=>true
 | k :: ks,e :: es=>gc N sc k e && uw N sc ks es
 | _,_=>false
noncomputable def zq0:Bop→Operator
 | .add=>.Add | .sub=>.Sub | .mul=>.Mult | .fdiv=>.FloorDiv | .mod=>.Mod | .pow=>.Pow
noncomputable def jj:Cop→CmpOp
 | .eq=>.Eq | .ne=>.NotEq | .lt=>.Lt | .le=>.LtE | .gt=>.Gt | .ge=>.GtE | .isin=>.In | .notin=>.NotIn
noncomputable def vr:Prim→PySem.Str
 | .len=>"len" | .max2=>"max" | .int1=>"int" | .sorted=>"sorted" | .tuple1=>"tuple" | .list1=>"list" | .all1=>"all"
noncomputable def zcf:Bm→PySem.Str
 | .append=>"append" | .extend=>"extend" | .pop=>"pop" | .insert=>"insert" | .count=>"count" | .get=>"get" | .join=>"join" | .upper=>"upper"
noncomputable def qi (sc:Sc) (names:Sc):Sc:=names.map fun x=>if x.2 == .free && sc.lookup x.1 == some .cell then (x.1,.cell) else x
noncomputable def js (sc':Sc) (Γ:Gam) (slot:Nat) (x:PySem.Str):Gam:=(Γ.map fun y=>match y with | some n=>if sc'.lookup n == some .cell then some n else none | none=>none).set slot (some x)
noncomputable def ip (sc:Sc) (scope:Scope) (slot:Nat) (Γ:Gam) (x:PySem.Str):Bool :=
 scope.kind == .function && decide (slot < Γ.length) && scope.names.lookup x == some .local &&
 scope.names.all (fun y=>y.2 != .cell && (y.2 != .local || scope.names.lookup y.1 == some .local) && (y.2 != .free || sc.lookup y.1 == some .cell))
noncomputable def tt:CmpOp→Bool→Bool
 | .Is,b=>!b
 | .IsNot,b=>b
 | _,_=>false
end Mine
end
section
namespace Mine
open PySem PySem.W PyProof.Rows
set_option genCtorIdx false in
structure Dp where
 n:Nat
 q:Bool
set_option genCtorIdx false in
structure AOk (d:Dp) (A:Around):Prop where
 hd:d.q=true→A.handled=none
 dep:A.depth + 2 * d.n + 6≤recursionLimit
 un:A.units + 20 * d.n + 110≤cLine
set_option genCtorIdx false in
structure AC (d:Dp) (A:Around):Prop where
 hd:d.q=true→A.handled=none
 dep:A.depth + 2 * d.n + 5≤recursionLimit
 un:A.units + 20 * d.n + 105≤cLine
theorem AOk.ac {d:Dp}{A:Around} (h:AOk d A):AC d A:=⟨h.hd,by have:=h.dep; lia,by have:=h.un; lia⟩
set_option genCtorIdx false in
structure Stk (A:Around) (t:Tie) (h:Heap):Prop where
 fr:A.frames=some t.st
 ob:∀ e,e∈t.st→e.scope.kind≠.module∧∃ L o,e.frame=some L∧t.pv L∧h.get? L=some o∧∀ vs,o.data≠.fields vs
theorem Stk.step {G:Gd}{A:Around}{X:Addr→Prop}{t t':Tie}{st:MS}{s s':Shared} (K:Stk A t s.heap) (R:Rel G t st s) (S:Step X t t' s s') (hX:∀ a,X a→t.Fr a→∀ o,s'.heap.get? a=some o→∀ vs,o.data≠.fields vs):Stk A t' s'.heap where
 fr:=by rw [S.le.st]; exact K.fr
 ob e he:=by
  rw [S.le.st] at he
  obtain ⟨h1,L,o,h2,h3,h4,h5⟩:=K.ob e he
  refine ⟨h1,L,?_⟩
  by_cases x:X L
  ·obtain ⟨o',e'⟩:=Option.isSome_iff_exists.mp (S.live L o h4)
   exact ⟨o',h2,by rw [S.le.pv]; exact h3,e',hX L x ⟨h3,e,he,h2⟩ o' e'⟩
  ·obtain ⟨sl,e'⟩:=S.slots L o h4 (R.pv L h3) x ⟨h3,e,he,h2⟩
   exact ⟨_,h2,by rw [S.le.pv]; exact h3,e',h5⟩
theorem Stk.step0 {G:Gd}{A:Around}{t t':Tie}{st:MS}{s s':Shared} (K:Stk A t s.heap) (R:Rel G t st s) (S:Step noX t t' s s'):Stk A t' s'.heap:=K.step R S fun _ x=>x.elim
theorem Stk.fresh {A:Around}{t:Tie}{h:Heap} (K:Stk A t h) {P:Addr→Prop}{a:Addr} (np:h.get? a=none):¬ (t.hide P).Fr a:=fun f=>by
 obtain ⟨-,e,h1,h2⟩:=f
 obtain ⟨-,L,o,h3,-,h4,-⟩:=K.ob e h1
 rw [h3] at h2; cases h2
 rw [np] at h4; exact za h4
theorem Step.pvk {G:Gd}{X:Addr→Prop}{t t':Tie}{st:MS}{s s':Shared} (S:Step X t t' s s') (R:Rel G t st s) {a:Addr}{o:Obj} (hp:t.pv a) (nx:¬ X a) (e:s.heap.get? a=some o):∃ sl,s'.heap.get? a=some { o with slots:=sl }:=by
 by_cases f:t.Fr a
 ·exact S.slots a o e (R.pv a hp) nx f
 ·exact ⟨o.slots,S.keep a o e (R.pv a hp) nx f⟩
set_option genCtorIdx false in
structure FrOk (G:Gd) (A:Around) (t:Tie) (env:Env) (Γ:Gam) (loc:Loc) (s:Shared):Prop where
 sk:Stk A t s.heap
 fn:env.scope.kind=.function
 gl:env.globals=mainGlobals
 bl:env.builtins=builtinsNs
 pvl:t.pv env.locals
 pvc:∀ n c,env.cells.lookup n=some c→t.pv c
 apart:∀ n n' c,env.cells.lookup n=some c→env.cells.lookup n'=some c→n=n'
 ex:∃ m cm:PySem.Str→Option Value,s.heap.Ns env.locals m∧(∀ n c,env.cells.lookup n=some c→s.heap.IsCell c (cm n))∧(∀ x,env.kindOf x=some .cell→(env.cells.lookup x).isSome=true) ∧
  ∀ (i:Nat) (x:PySem.Str) (X:V),Γ[i]?=some (some x)→loc[i]?=some (some X)→∃ v,VRel t s.heap X v∧((env.kindOf x=some .local∧m x=some v)∨(env.kindOf x=some .cell∧cm x=some v))
theorem FrOk.step {G:Gd}{A:Around}{t t':Tie}{env:Env}{Γ:Gam}{loc:Loc}{st:MS}{s s':Shared} (F:FrOk G A t env Γ loc s) (R:Rel G t st s) (S:Step noX t t' s s'):FrOk G A t' env Γ loc s' where
 sk:=F.sk.step0 R S
 fn:=F.fn
 gl:=F.gl
 bl:=F.bl
 pvl:=by rw [S.le.pv]; exact F.pvl
 pvc n c h:=by rw [S.le.pv]; exact F.pvc n c h
 apart:=F.apart
 ex:=by
  obtain ⟨m,cm,⟨o,es,ep,ho,r⟩,hc,hz,hs⟩:=F.ex
  obtain ⟨sl,ho'⟩:=Step.pvk S R F.pvl (fun q=>q) ho
  refine ⟨m,cm,⟨_,es,ep,ho',r⟩,fun n c e=>?_,hz,fun i x X e1 e2=>?_⟩
  ·obtain ⟨oc,h1,h2⟩:=hc n c e
   obtain ⟨sl,h1'⟩:=Step.pvk S R (F.pvc n c e) (fun q=>q) h1
   exact ⟨_,h1',h2⟩
  ·obtain ⟨v,hv,r⟩:=hs i x X e1 e2
   exact ⟨v,VRel.step S (fun _ q=>q.elim) X hv,r⟩
noncomputable def Sim (G:Gd) (A:Around) {α:Type} (t:Tie) (s:Shared) (tree:Sem α) (st':MS) (rel:Tie→Shared→α→Prop):Prop :=
 ∀ (Q:α→Shared→Prop) (E:Value→Shared→Prop),(∀ v t' s',Step noX t t' s s'→Rel G t' st' s'→rel t' s' v→Q v s')→wpAny G.M A tree Q E s
noncomputable abbrev q7 (X:V):Tie→Shared→Value→Prop:=fun t s v=>VRel t s.heap X v
noncomputable abbrev zvl (X:List V):Tie→Shared→List Value→Prop:=fun t s v=>VRels t s.heap X v
theorem Sim.ok {G:Gd}{A:Around}{t:Tie}{s:Shared}{tree:Sem Value}{X Z:V}{st st':MS} (e:Res.ok X st=.ok Z st') (h:Sim G A t s tree st (q7 X)):Sim G A t s tree st' (q7 Z):=by cases e; exact h
theorem Res.bind_ok {α β:Type}{r:Res α}{f:α→MS→Res β}{b:β}{s':MS} (e:r.bind f=.ok b s'):∃ a s,r=.ok a s∧f a s=.ok b s':=by
 cases r with
 | ok a s=>exact ⟨a,s,rfl,e⟩
 | exc _ _=>cases e
 | stuck=>exact zd e
theorem Res.bnd_ok {α β:Type}{r:Res α}{f:α→MS→Res β}{b:β}{s':MS} (e:r.bnd f=.ok b s'):∃ a s,r=.ok a s∧f a s=.ok b s':=by
 cases r with
 | ok a s=>exact ⟨a,s,rfl,e⟩
 | exc _ _=>exact zd e
 | stuck=>exact zd e
noncomputable def pw (G:Gd) (C:Calls) (d:Dp) (f:Nat):Prop :=
 ∀ vs st X st',C f vs st=.ok X st'→∀ A,AC d A→∃ a,G.fa f=some a∧∀ t s args,Stk A t s.heap→Rel G t st s→VRels t s.heap vs args→∀ (B:Result→Shared→Prop),
  (∀ v t' s',Step noX t t' s s'→Rel G t' st' s'→VRel t' s'.heap X v→B (.ok (.ret v)) s')→codeAny G.M A (.call (.ref a) ⟨args,[]⟩) B s
noncomputable def lf (G:Gd) (C:Calls) (d:Dp):Prop:=∀ f,pw G C d f
set_option genCtorIdx false in
structure Gd.Ok (G:Gd) (N:Names):Prop where
 K:G.K.In G.h₀
 g:G.h₀.Ns mainGlobals G.mg
 b:G.h₀.Ns builtinsNs G.mb
 bi:∀ x:PySem.Str,x≠"__name__"→G.mb x=bootBuiltins x
 lim:G.h₀.NoLimit
 gi:∀ x i,N.gi.contains (x,i)=true→∃ k,G.mg x=some (.int i k)
 gs:∀ x l,N.gs.contains (x,l)=true→∃ k,G.mg x=some (.str (qh l) k)
 an:∀ i j,G.an i=G.an j→i=j
 attr:N.attr=G.an
 none:∀ x,x∈(["len","max","int","sorted","tuple","list","all","isinstance","range","dict","bool","str","ValueError"]:List PySem.Str)→G.mg x=none
noncomputable def qb (G:Gd) (C:Calls) (d:Dp) (sc:Sc) (Γ:Gam) (e:E) (ast:PySem.Expr):Prop :=
 ∀ t st s env loc X st' A,AOk d A→env.scope.names=sc→FrOk G A t env Γ loc s→Rel G t st s→ev G.P C e loc st=.ok X st'→Sim G A t s (eval ast env) st' (q7 X)
noncomputable def v7 (G:Gd) (C:Calls) (d:Dp) (sc:Sc) (Γ:Gam) (l:List E) (m:List PySem.Expr):Prop :=
 ∀ pos t st s env loc Xs st' A,AOk d A→env.scope.names=sc→FrOk G A t env Γ loc s→Rel G t st s→evL G.P C l loc st=.ok Xs st'→Sim G A t s (spliced (backTo pos (starEach m env))) st' (zvl Xs)
section
variable {G:Gd}{N:Names}{C:Calls}{d:Dp}{sc:Sc}{Γ:Gam}
theorem Sim.here {A:Around}{α:Type}{t:Tie}{st:MS}{s:Shared}{tree:Sem α}{rel:Tie→Shared→α→Prop} (R:Rel G t st s)
  (h:∀ (Q:α→Shared→Prop) (E:Value→Shared→Prop),(∀ v tk,rel t { s with toks:=tk } v→Q v { s with toks:=tk })→wpAny G.M A tree Q E s):Sim G A t s tree st rel :=
 fun Q E k=>h Q E fun v tk r=>k v t _ (Step.toks _ t s tk) (R.toks tk) r
theorem zkk {k:Nat}{pos:Pos}:qb G C d sc Γ .none (.Constant .none k pos):=by
 intro t st s env loc X st' A hA hsc F R e
 cases e
 exact Sim.here R fun Q E k=>fun _ _ _=>k .none s.toks rfl
theorem zkz {b:Bool}{k:Nat}{pos:Pos}:qb G C d sc Γ (.bool b) (.Constant (.bool b) k pos):=by
 intro t st s env loc X st' A hA hsc F R e
 cases e
 exact Sim.here R fun Q E k=>fun _ _ _=>k (.bool b) s.toks rfl
theorem zna {i:Int}{k:Nat}{pos:Pos}:qb G C d sc Γ (.int i) (.Constant (.int i) k pos):=by
 intro t st s env loc X st' A hA hsc F R e
 cases e
 exact Sim.here R fun Q E k=>wpAny_Constant_int (k _ _ ⟨_,rfl⟩)
theorem zmr {x:List Nat}{k:Nat}{pos:Pos}:qb G C d sc Γ (.str x) (.Constant (.str (qh x)) k pos):=by
 intro t st s env loc X st' A hA hsc F R e
 cases e
 exact Sim.here R fun Q E k=>wpAny_Constant_str (k _ _ ⟨_,rfl⟩)
theorem zmq {i:Nat}{x:PySem.Str}{pos:Pos} (hx:Γ[i]?=some (some x)) (hd:(x == ("__debug__":PySem.Str))=false):qb G C d sc Γ (.loc i) (.Name x pos):=by
 intro t st s env loc X st' A hA hsc F R e
 rw [zqu] at e
 split at e
 ·rename_i v hv
  cases e
  obtain ⟨m,cm,hn,hc,hz,hs⟩:=F.ex
  obtain ⟨y,hy,r⟩:=hs i x X hx hv
  refine Sim.here R fun Q E k=>wpAny_Name ?_ hd
  rcases r with ⟨hk,hm⟩ | ⟨hk,hm⟩
  ·exact wpAny_loadName_local F.fn hk hn hm (k y s.toks hy)
  ·obtain ⟨c,hcl⟩:=Option.isSome_iff_exists.mp (hz x hk)
   exact wpAny_loadName_cell F.fn hk hcl (hm ▸ hc x c hcl) (k y s.toks hy)
 ·exact zd e
theorem ba {A:Around}{t:Tie}{st:MS}{s:Shared}{env:Env}{loc:Loc}{x:PySem.Str}{pos:Pos}{v:Value}{Q:Value→Shared→Prop}{E:Value→Shared→Prop} (O:G.Ok N) (F:FrOk G A t env Γ loc s) (R:Rel G t st s)
  (hsc:env.scope.names=sc) (hg:k8 sc x=true) (hm:G.mg x=some v) (h:Q v s):wpAny G.M A (eval (.Name x pos) env) Q E s:=by
 simp only [k8,Bool.and_eq_true,beq_iff_eq,bne_iff_ne,ne_eq] at hg
 refine Calls.Name_function_global F.fn (by unfold Env.kindOf; rw [hsc]; exact hg.1) (Calls.loadGlobal_global (by rw [F.gl]; exact O.g.keeps R.base) hm h) (by simpa using hg.2)
theorem zcn {A:Around}{t:Tie}{st:MS}{s:Shared}{env:Env}{loc:Loc}{x:PySem.Str}{pos:Pos}{v:Value}{Q:Value→Shared→Prop}{E:Value→Shared→Prop} (O:G.Ok N) (F:FrOk G A t env Γ loc s) (R:Rel G t st s)
  (hsc:env.scope.names=sc) (hg:k8 sc x=true) (hm:G.mg x=none) (hb:bootBuiltins x=some v) (hn:x≠"__name__") (h:Q v s):wpAny G.M A (eval (.Name x pos) env) Q E s:=by
 simp only [k8,Bool.and_eq_true,beq_iff_eq,bne_iff_ne,ne_eq] at hg
 refine Calls.Name_function_global F.fn (by unfold Env.kindOf; rw [hsc]; exact hg.1) (Calls.loadGlobal_builtin (by rw [F.gl]; exact O.g.keeps R.base) hm (by rw [F.bl]; exact O.b.keeps R.base) ((O.bi x hn).trans hb) h) (by simpa using hg.2)
theorem zi1 (O:G.Ok N) {x:PySem.Str}{i:Int}{pos:Pos} (hg:k8 sc x=true) (hi:N.gi.contains (x,i)=true):qb G C d sc Γ (.gint x i) (.Name x pos):=by
 intro t st s env loc X st' A hA hsc F R e
 cases e
 obtain ⟨k',hk⟩:=O.gi x i hi
 exact Sim.here R fun Q E k=>ba O F R hsc hg hk (k _ s.toks ⟨_,rfl⟩)
theorem zhv (O:G.Ok N) {x:PySem.Str}{l:List Nat}{pos:Pos} (hg:k8 sc x=true) (hi:N.gs.contains (x,l)=true):qb G C d sc Γ (.gstr x l) (.Name x pos):=by
 intro t st s env loc X st' A hA hsc F R e
 cases e
 obtain ⟨k',hk⟩:=O.gs x l hi
 exact Sim.here R fun Q E k=>ba O F R hsc hg hk (k _ s.toks ⟨_,rfl⟩)
theorem uc:v7 G C d sc Γ [] []:=by
 intro pos t st s env loc X st' A hA hsc F R e
 cases e
 exact fun Q E k=>Calls.spliced_nil (k [] t s (.refl _ _ _) R rfl)
theorem yr {e:E}{l:List E}{x:PySem.Expr}{m:List PySem.Expr} (hx:isStarred x=false) (h1:qb G C d sc Γ e x) (h2:v7 G C d sc Γ l m):v7 G C d sc Γ (e :: l) (x :: m):=by
 intro pos t st s env loc X st' A hA hsc F R q
 rw [ym] at q
 obtain ⟨v,s1,q1,q⟩:=Res.bind_ok q
 obtain ⟨vs,s2,q2,q⟩:=Res.bind_ok q
 cases q
 intro Q E k
 have he:starEach (x :: m) env=(false,eval x env) :: starEach m env:=by cases x <;> first | rfl | exact zej hx
 refine wpAny_items_cons (h1 t st s env loc v s1 A hA hsc F R q1 _ _ fun y t1 σ1 S1 R1 r1=>?_) he
 refine h2 pos t1 s1 σ1 env loc vs st' A hA hsc (F.step R S1) R1 q2 _ _ fun ys t2 σ2 S2 R2 r2=>?_
 exact k _ t2 σ2 (S1.trans S2) R2 ⟨y,ys,rfl,VRel.step S2 (fun _ z=>z.elim) v r1,r2⟩
end
end Mine
end
section
namespace Mine
open PySem PySem.W PyProof.Rows PySem.SeqAt
section
variable {G:Gd}{t:Tie}{st:MS}{s:Shared}
theorem qo (R:Rel G t st s) {X:V}{v:Value}{k:Bool}{l:List V} (r:VRel t s.heap X v) (e:zv st X=some (k,l)) :
  ∃ a vs,v=.ref a∧(if k=true then PL s.heap a vs else PT s.heap a vs)∧VRels t s.heap l vs.toList∧l.length≤zf:=by
 cases X with
 | tup m=>cases e; obtain ⟨a,vs,e1,e2,_,sz,e3⟩:=r; exact ⟨a,vs,e1,e2,e3,sz⟩
 | lst m=>cases e; obtain ⟨a,vs,e1,e2,_,sz,e3⟩:=r; exact ⟨a,vs,e1,e2,e3,sz⟩
 | ref lb =>
  simp only [zv] at e
  split at e
  ·rename_i m hm
   cases e
   obtain ⟨a,vs,h1,h2,sz,h3⟩:=R.objs lb _ hm
   obtain ⟨a',e1,e2⟩:=r
   rw [h1] at e2; cases e2
   exact ⟨a,vs,e1,h2,h3,sz⟩
  ·exact za e
 | _=>exact za e
noncomputable def vk (t:Tie) (h:Heap) (v:Value):Nat:=match v with
 | .none=>0
 | .bool _=>1
 | .int _ _=>2
 | .str _ _=>3
 | .ref a=>@ite Nat (∃ l,t.ρ l=some a) (Classical.propDecidable _) 6 ((h.get? a).elim 7 fun o=>@ite Nat (o.cls=.type "tuple") (Classical.propDecidable _) 4 (@ite Nat (o.cls=.type "list") (Classical.propDecidable _) 5 7))
 | _=>8
theorem zdr {h:Heap}{a:Addr}{o:Obj} (ho:h.get? a=some o) (na:¬ t.Avoid a):vk t h (.ref a)=@ite Nat (o.cls=.type "tuple") (Classical.propDecidable _) 4 (@ite Nat (o.cls=.type "list") (Classical.propDecidable _) 5 7):=by
 have n1:¬ ∃ l,t.ρ l=some a:=fun ⟨l,q⟩=>na (.inl ⟨l,.inl q⟩)
 show @ite Nat (∃ l,t.ρ l=some a) (Classical.propDecidable _) 6 ((h.get? a).elim 7 _)=_
 rw [if_neg n1,ho]; rfl
theorem n6:¬ (Value.type "list"=.type "tuple"):=by decide
theorem VRel.kind {h:Heap}:∀ {X:V}{v:Value},VRel t h X v→vk t h v=X.ctorIdx
 | .none,_,e=>by rw [show _=_ from e]; rfl
 | .bool b,_,e=>by rw [show _=_ from e]; rfl
 | .int i,_,⟨k,e⟩=>by rw [e]; rfl
 | .str x,_,⟨k,e⟩=>by rw [e]; rfl
 | .tup l,_,⟨a,vs,e,⟨n,ho⟩,na,_⟩=>by rw [e,zdr ho na,if_pos rfl]; rfl
 | .lst l,_,⟨a,vs,e,⟨n,ho⟩,na,_⟩=>by rw [e,zdr ho na,if_neg n6,if_pos rfl]; rfl
 | .ref l,_,⟨a,e,hl⟩=>by
  rw [e]
  show @ite Nat (∃ l,t.ρ l=some a) (Classical.propDecidable _) 6 _=_
  rw [if_pos ⟨l,hl⟩]; rfl
 | .exc c,_,⟨a,o,e,ho,hc,na⟩=>by rw [e,zdr ho na,hc,if_neg nofun,if_neg nofun]; rfl
theorem lv {a b:Addr} (e:Value.ref a=.ref b):a=b:=by cases e; rfl
mutual
theorem VRel.inj (R:Rel G t st s):∀ (X Y:V) {v:Value},VRel t s.heap X v→VRel t s.heap Y v→X=Y
 | .none,Y,v,h,h'=>V.none.elim (motive_1:=fun Y=>V.none=Y) Y (h'.kind.symm.trans h.kind) rfl
 | .bool b,Y,v,h,h'=>V.bool.elim (motive_1:=fun Y=>VRel t s.heap Y v→V.bool b=Y) Y (h'.kind.symm.trans h.kind) (fun b' h'=>by
  have e:Value.bool b=.bool b':=(show v=.bool b from h).symm.trans h'
  cases e; rfl) h'
 | .int i,Y,v,h,h'=>V.int.elim (motive_1:=fun Y=>VRel t s.heap Y v→V.int i=Y) Y (h'.kind.symm.trans h.kind) (fun i' h'=>by
  obtain ⟨k,e⟩:=h
  obtain ⟨k',e'⟩:=h'
  rw [e] at e'; cases e'; rfl) h'
 | .str x,Y,v,h,h'=>V.str.elim (motive_1:=fun Y=>VRel t s.heap Y v→V.str x=Y) Y (h'.kind.symm.trans h.kind) (fun y h'=>by
  obtain ⟨k,e⟩:=h
  obtain ⟨k',e'⟩:=h'
  rw [e] at e'
  simp only [Value.str.injEq,Str.mk.injEq] at e'
  have:=congrArg Array.toList e'.1
  simp only [List.toList_toArray] at this
  rw [this]) h'
 | .tup l,Y,v,h,h'=>V.tup.elim (motive_1:=fun Y=>VRel t s.heap Y v→V.tup l=Y) Y (h'.kind.symm.trans h.kind) (fun m h'=>by
  obtain ⟨a,vs,e,⟨n,ho⟩,_,_,hr⟩:=h
  obtain ⟨b,ws,e',⟨n',ho'⟩,_,_,hr'⟩:=h'
  cases lv (e.symm.trans e')
  rw [ho] at ho'; cases ho'
  rw [VRels.inj R l m hr hr']) h'
 | .lst l,Y,v,h,h'=>V.lst.elim (motive_1:=fun Y=>VRel t s.heap Y v→V.lst l=Y) Y (h'.kind.symm.trans h.kind) (fun m h'=>by
  obtain ⟨a,vs,e,⟨n,ho⟩,_,_,hr⟩:=h
  obtain ⟨b,ws,e',⟨n',ho'⟩,_,_,hr'⟩:=h'
  cases lv (e.symm.trans e')
  rw [ho] at ho'; cases ho'
  rw [VRels.inj R l m hr hr']) h'
 | .ref l,Y,v,h,h'=>V.ref.elim (motive_1:=fun Y=>VRel t s.heap Y v→V.ref l=Y) Y (h'.kind.symm.trans h.kind) (fun r h'=>by
  obtain ⟨a,e,hl⟩:=h
  obtain ⟨b,e',hb⟩:=h'
  cases lv (e.symm.trans e')
  rw [R.injρ l r a hl hb]) h'
 | .exc c,Y,v,h,h'=>V.exc.elim (motive_1:=fun Y=>VRel t s.heap Y v→V.exc c=Y) Y (h'.kind.symm.trans h.kind) (fun c' h'=>by
  obtain ⟨a,o,e,ho,hc,_⟩:=h
  obtain ⟨b,o',e',ho',hc',_⟩:=h'
  cases lv (e.symm.trans e')
  rw [ho] at ho'; cases ho'
  rw [hc] at hc'; cases hc'; rfl) h'
theorem VRels.inj (R:Rel G t st s):∀ (l m:List V) {vs:List Value},VRels t s.heap l vs→VRels t s.heap m vs→l=m
 | [],[],vs,h,h'=>rfl
 | [],y :: m,vs,h,h'=>by
  obtain ⟨_,_,e,_⟩:=h'
  rw [show vs=[] from h] at e; cases e
 | x :: l,[],vs,h,h'=>by
  obtain ⟨_,_,e,_⟩:=h
  rw [show vs=[] from h'] at e; cases e
 | x :: l,y :: m,vs,h,h'=>by
  obtain ⟨v,r,e,a,b⟩:=h
  obtain ⟨v',r',e',a',b'⟩:=h'
  rw [e] at e'; cases e'
  rw [VRel.inj R x y a a',VRels.inj R l m b b']
end
noncomputable def vv (st:MS) (n:Nat) (la lb:List V) (j:Nat):Bool:=(veq st n ((la[j]?).getD .none) ((lb[j]?).getD .none)).getD false
theorem znx {f:V→V→Option Bool}{x y:V}{la lb:List V}{r:Bool} (e:qy f (x :: la) (y :: lb)=some r):∃ p q,f x y=some p∧qy f la lb=some q∧r=(p && q):=by
 have e:(match f x y,qy f la lb with | some p,some q=>some (p && q) | _,_=>none)=some r:=e
 cases hp:f x y with
 | none=>rw [hp] at e; exact za e
 | some p =>
  cases hq:qy f la lb with
  | none=>rw [hp,hq] at e; exact za e
  | some q=>rw [hp,hq] at e; cases e; exact ⟨p,q,rfl,rfl,rfl⟩
theorem uv (st:MS) (n:Nat):∀ (la lb:List V) (r:Bool),qy (veq st n) la lb=some r →
  (∀ (j:Nat) (x y:V),la[j]?=some x→lb[j]?=some y→∃ b,veq st n x y=some b)∧r=((List.range (min la.length lb.length)).all (vv st n la lb) && la.length == lb.length)
 | [],[],r,e=>by cases e; exact ⟨fun j x y e=>(by cases e),rfl⟩
 | [],y :: lb,r,e=>by cases e; exact ⟨fun j x y e=>(by cases e),by rw [List.length_nil,Nat.zero_min]; rfl⟩
 | x :: la,[],r,e=>by cases e; exact ⟨fun j x y _ e=>(by cases e),by rw [List.length_nil,Nat.min_zero]; rfl⟩
 | x :: la,y :: lb,r,e=>by
  obtain ⟨p,q,hp,hq,rfl⟩:=znx e
  obtain ⟨h1,h2⟩:=uv st n la lb q hq
  refine ⟨fun j x' y' e1 e2=>?_,?_⟩
  ·cases j with
   | zero=>cases e1; cases e2; exact ⟨p,hp⟩
   | succ j=>exact h1 j x' y' e1 e2
  ·have hv:vv st n (x :: la) (y :: lb) 0=p:=by show (veq st n x y).getD false=p; rw [hp]; rfl
   rw [List.length_cons,List.length_cons,Nat.add_min_add_right,List.range_succ_eq_map,List.all_cons,List.all_map,hv,h2,Bool.and_assoc]
   rw [show (la.length + 1 == lb.length + 1)=(la.length == lb.length) by rw [Bool.eq_iff_iff,beq_iff_eq,beq_iff_eq]; exact Nat.add_right_cancel_iff]; rfl
theorem zdx {f:V→V→Option Bool} (h:∀ x b,f x x=some b→b=true):∀ (l:List V) (r:Bool),qy f l l=some r→r=true
 | [],_,e=>by cases e; rfl
 | x :: l,r,e=>by
  have e:(match f x x,qy f l l with | some p,some q=>some (p && q) | _,_=>none)=some r:=e
  cases hp:f x x with
  | none=>rw [hp] at e; exact za e
  | some p =>
   cases hq:qy f l l with
   | none=>rw [hp,hq] at e; exact za e
   | some q =>
    rw [hp,hq] at e
    cases e
    rw [h x p hp,zdx h l q hq]; rfl
theorem ziv {X:V}{r:Bool} (e:pj X X=some r):r=true:=by
 cases X with
 | bool b=>cases e; cases b <;> rfl
 | int i=>cases e; exact decide_eq_true rfl
 | str x=>cases e; exact decide_eq_true rfl
 | none=>cases e; rfl
 | _=>exact za e
theorem za2 (st:MS):∀ (n:Nat) (X:V) (r:Bool),veq st n X X=some r→r=true
 | 0,_,_,e=>by exact za e
 | n + 1,X,r,e=>by
  have e:(match zv st X,zv st X with
   | some p,some q=>if p.1=q.1 then (if p.1=true∧p.2.length≠q.2.length then some false else qy (veq st n) p.2 q.2) else some false
   | some _,Option.none=>x5 X
   | Option.none,some _=>x5 X
   | Option.none,Option.none=>pj X X)=some r:=e
  cases h:zv st X with
  | none=>rw [h] at e; exact ziv e
  | some p =>
   rw [h] at e
   have e:(if p.1=p.1 then (if p.1=true∧p.2.length≠p.2.length then some false else qy (veq st n) p.2 p.2) else some false)=some r:=e
   rw [if_pos rfl,if_neg fun q=>q.2 rfl] at e
   exact zdx (za2 st n) p.2 r e
theorem VRels.at {h:Heap}{l:List V}{vs:Array Value} (r:VRels t h l vs.toList) {j:Nat} (hj:j < vs.size):∃ x,l[j]?=some x∧VRel t h x vs[j]:=by
 have hl:=r.length
 have:j < l.length:=by rw [← hl]; simpa using hj
 obtain ⟨v,e1,e2⟩:=r.get (i:=j) (x:=l[j]) (by simp [this])
 refine ⟨l[j],by simp [this],?_⟩
 rw [Array.getElem?_toList,Array.getElem?_eq_getElem hj] at e1
 cases e1; exact e2
noncomputable abbrev RR (A:Around) (s:Shared) (v w:Value) (r:Bool):Prop:=RcAt A s v w r∧RcNeAt A s v w (!r)
theorem jh {A:Around}{v v' w w':Value}{r r':Bool} (hv:v=v') (hw:w=w') (h1:RcAt A s v' w' r') (h2:RcNeAt A s v' w' (!r')) (e:some r'=some r):RR A s v w r:=by
 subst hv hw; cases e; exact ⟨h1,h2⟩
theorem zss (a b:List Nat):(qh a == qh b)=decide (a=b):=by
 by_cases q:a=b
 ·subst q; rw [decide_eq_true rfl]; exact beq_self_eq_true _
 ·rw [decide_eq_false q]
  exact beq_false_of_ne fun z=>q (by injection z with z; exact congrArg Array.toList z)
theorem znh {A:Around}{X Y:V}{v w:Value}{r:Bool} (e:pj X Y=some r) (hX:VRel t s.heap X v) (hY:VRel t s.heap Y w):RR A s v w r:=by
 cases X with
 | none=>cases Y with
  | none=>exact jh hX hY RcAt.none_none RcNeAt.none_none e
  | bool y=>exact jh hX hY (RcAt.none_bool _) (RcNeAt.none_bool _) e
  | int y=>exact hY.elim fun _ hw=>jh hX hw (RcAt.none_int _ _) (RcNeAt.none_int _ _) e
  | str y=>exact hY.elim fun _ hw=>jh hX hw (RcAt.none_str _ _) (RcNeAt.none_str _ _) e
  | _=>exact za e
 | bool x=>cases Y with
  | none=>exact jh hX hY (RcAt.bool_none _) (RcNeAt.bool_none _) e
  | bool y=>exact jh hX hY (RcAt.bool_bool _ _) (RcNeAt.bool_bool _ _) e
  | str y=>exact hY.elim fun _ hw=>jh hX hw (RcAt.bool_str _ _ _) (RcNeAt.bool_str _ _ _) e
  | _=>exact za e
 | int x =>
  obtain ⟨_,hX⟩:=hX
  cases Y with
  | none=>exact jh hX hY (RcAt.int_none _ _) (RcNeAt.int_none _ _) e
  | int y=>exact hY.elim fun _ hw=>jh hX hw (RcAt.int_int _ _ _ _) (RcNeAt.int_int _ _ _ _) e
  | str y=>exact hY.elim fun _ hw=>jh hX hw (RcAt.int_str _ _ _ _) (RcNeAt.int_str _ _ _ _) e
  | _=>exact za e
 | str x =>
  obtain ⟨_,hX⟩:=hX
  cases Y with
  | none=>exact jh hX hY (RcAt.str_none _ _) (RcNeAt.str_none _ _) e
  | bool y=>exact jh hX hY (RcAt.str_bool _ _ _) (RcNeAt.str_bool _ _ _) e
  | int y=>exact hY.elim fun _ hw=>jh hX hw (RcAt.str_int _ _ _ _) (RcNeAt.str_int _ _ _ _) e
  | str y=>exact hY.elim fun _ hw=>jh hX hw (RcAt.str_str _ _ _ _) (RcNeAt.str_str _ _ _ _) ((congrArg some (zss x y)).trans e)
  | _=>exact za e
 | _=>exact za e
theorem zmh {A:Around}{k:Bool}{a:Addr}{vs:Array Value}{Y:V}{w:Value}{r:Bool} (ia:if k=true then PL s.heap a vs else PT s.heap a vs) (hu:A.units < cLine) (e:x5 Y=some r) (hY:VRel t s.heap Y w):RR A s (.ref a) w r:=by
 cases k with
 | true =>
  have ia:=PL.isList (show PL s.heap a vs from ia)
  cases Y with
  | none=>exact jh rfl hY (RcAt.list_none ia hu) (RcNeAt.list_none ia hu) e
  | bool y=>exact jh rfl hY (RcAt.list_bool _ ia hu) (RcNeAt.list_bool _ ia hu) e
  | int y=>exact hY.elim fun _ hw=>jh rfl hw (RcAt.list_int _ _ ia hu) (RcNeAt.list_int _ _ ia hu) e
  | str y=>exact hY.elim fun _ hw=>jh rfl hw (RcAt.list_str _ _ ia hu) (RcNeAt.list_str _ _ ia hu) e
  | _=>exact za e
 | false =>
  have ia:=PT.isTuple (show PT s.heap a vs from ia)
  cases Y with
  | none=>exact jh rfl hY (RcAt.tuple_none ia hu) (RcNeAt.tuple_none ia hu) e
  | bool y=>exact jh rfl hY (RcAt.tuple_bool _ ia hu) (RcNeAt.tuple_bool _ ia hu) e
  | int y=>exact hY.elim fun _ hw=>jh rfl hw (RcAt.tuple_int _ _ ia hu) (RcNeAt.tuple_int _ _ ia hu) e
  | str y=>exact hY.elim fun _ hw=>jh rfl hw (RcAt.tuple_str _ _ ia hu) (RcNeAt.tuple_str _ _ ia hu) e
  | _=>exact za e
theorem znl {A:Around}{k:Bool}{a:Addr}{vs:Array Value}{Y:V}{w:Value}{r:Bool} (ia:if k=true then PL s.heap a vs else PT s.heap a vs) (hu:A.units < cLine) (e:x5 Y=some r) (hY:VRel t s.heap Y w):RR A s w (.ref a) r:=by
 cases k with
 | true =>
  have ia:=PL.isList (show PL s.heap a vs from ia)
  cases Y with
  | none=>exact jh hY rfl (RcAt.none_list ia hu) (RcNeAt.none_list ia hu) e
  | bool y=>exact jh hY rfl (RcAt.bool_list _ ia hu) (RcNeAt.bool_list _ ia hu) e
  | int y=>exact hY.elim fun _ hw=>jh hw rfl (RcAt.int_list _ _ ia hu) (RcNeAt.int_list _ _ ia hu) e
  | str y=>exact hY.elim fun _ hw=>jh hw rfl (RcAt.str_list _ _ ia hu) (RcNeAt.str_list _ _ ia hu) e
  | _=>exact za e
 | false =>
  have ia:=PT.isTuple (show PT s.heap a vs from ia)
  cases Y with
  | none=>exact jh hY rfl (RcAt.none_tuple ia hu) (RcNeAt.none_tuple ia hu) e
  | bool y=>exact jh hY rfl (RcAt.bool_tuple _ ia hu) (RcNeAt.bool_tuple _ ia hu) e
  | int y=>exact hY.elim fun _ hw=>jh hw rfl (RcAt.int_tuple _ _ ia hu) (RcNeAt.int_tuple _ _ ia hu) e
  | str y=>exact hY.elim fun _ hw=>jh hw rfl (RcAt.str_tuple _ _ ia hu) (RcNeAt.str_tuple _ _ ia hu) e
  | _=>exact za e
theorem zjs {A:Around}{k j:Bool}{a b:Addr}{vs ws:Array Value} (ia:if k=true then PL s.heap a vs else PT s.heap a vs) (ib:if j=true then PL s.heap b ws else PT s.heap b ws) (hu:A.units < cLine) (hk:¬ k=j):RR A s (.ref a) (.ref b) false:=by
 cases k with
 | true =>
  cases j with
  | true=>exact absurd rfl hk
  | false =>
   have ia:=PL.isList (show PL s.heap a vs from ia)
   have ib:=PT.isTuple (show PT s.heap b ws from ib)
   exact ⟨RcAt.list_tuple ia ib hu,RcNeAt.list_tuple ia ib hu⟩
 | false =>
  cases j with
  | false=>exact absurd rfl hk
  | true =>
   have ia:=PT.isTuple (show PT s.heap a vs from ia)
   have ib:=PL.isList (show PL s.heap b ws from ib)
   exact ⟨RcAt.tuple_list ia ib hu,RcNeAt.tuple_list ia ib hu⟩
theorem VRels.size {h:Heap}{l:List V}{vs:Array Value} (r:VRels t h l vs.toList):vs.size=l.length:=r.length
theorem zms {A:Around}{n:Nat}{k:Bool}{a b:Addr}{vs ws:Array Value}{la lb:List V}{r:Bool} (ia:if k=true then PL s.heap a vs else PT s.heap a vs) (ib:if k=true then PL s.heap b ws else PT s.heap b ws) (hu:A.units < cLine)
  (ra:VRels t s.heap la vs.toList) (rb:VRels t s.heap lb ws.toList) (ih:∀ x y v w z,veq st n x y=some z→VRel t s.heap x v→VRel t s.heap y w→EqAt A.in1 s v w z)
  (e:(if k=true∧la.length≠lb.length then some false else qy (veq st n) la lb)=some r):RR A s (.ref a) (.ref b) r:=by
 have items (g1:∀ (j:Nat) (x y:V),la[j]?=some x→lb[j]?=some y→∃ b,veq st n x y=some b):∀ j (h1:j < vs.size) (h2:j < ws.size),EqAt A.in1 s vs[j] ws[j] (vv st n la lb j):=fun j h1 h2=>by
  obtain ⟨x,q1,q2⟩:=ra.at h1
  obtain ⟨y,q3,q4⟩:=rb.at h2
  obtain ⟨z,hz⟩:=g1 j x y q1 q3
  delta vv
  rw [q1,q3,Option.getD_some,Option.getD_some,hz]
  exact ih x y _ _ z hz q2 q4
 cases k with
 | true =>
  have ia:=PL.isList (show PL s.heap a vs from ia)
  have ib:=PL.isList (show PL s.heap b ws from ib)
  by_cases hne:la.length=lb.length
  ·rw [if_neg fun q=>q.2 hne] at e
   obtain ⟨g1,g2⟩:=uv st n la lb r e
   have hz:vs.size=ws.size:=ra.size.trans (hne.trans rb.size.symm)
   have g2:r=(List.range vs.size).all (vv st n la lb):=by rw [g2,ra.size,hne,Nat.min_self,beq_self_eq_true,Bool.and_true]
   rw [g2]
   exact ⟨RcAt.lists ia ib hz hu (items g1),RcNeAt.lists ia ib hz hu (items g1)⟩
  ·rw [if_pos ⟨rfl,hne⟩] at e
   have hz:(vs.size != ws.size)=true:=by rw [ra.size,rb.size]; exact bne_iff_ne.2 hne
   exact jh rfl rfl (RcAt.lists_lengths ia ib hz hu) (RcNeAt.lists_lengths ia ib hz hu) e
 | false =>
  have ia:=PT.isTuple (show PT s.heap a vs from ia)
  have ib:=PT.isTuple (show PT s.heap b ws from ib)
  rw [if_neg fun q=>qg q.1] at e
  obtain ⟨g1,g2⟩:=uv st n la lb r e
  rw [← ra.size,← rb.size] at g2
  rw [g2]
  exact ⟨RcAt.tuples ia ib hu (items g1),RcNeAt.tuples ia ib hu (items g1)⟩
noncomputable def zk6:Value→Bool
 | .float _ _=>true
 | _=>false
theorem zha {v w:Value} (hv:zk6 v=false):eqBool v w=holding [v,w] (do
  if v == w then rule "eq-bool.same-object"; return true
  truthOfDropped (← richCompare .Eq v w)):=by
 cases v with
 | float=>exact zej hv
 | _=>rfl
theorem zih {A:Around}{v w:Value}{k:Bool} (hv:zk6 v=false) (hne:v≠w) (h:RcAt A s v w k):EqAt A s v w k:=fun prog W E Q hq=>by
 rw [zha hv]
 refine wpAny_holding ?_
 refine wpAny_ite_split (fun hab=>absurd (eq_of_beq hab) hne) (fun _=>?_)
 exact wpAny_bind (h prog W E _ (wpAny_truthy_bool hq))
theorem VRel.noFlt {h:Heap}:∀ {X:V}{v:Value},VRel t h X v→zk6 v=false
 | .none,_,e=>by rw [show _=_ from e]; rfl
 | .bool b,_,e=>by rw [show _=_ from e]; rfl
 | .int i,_,⟨k,e⟩=>by rw [e]; rfl
 | .str x,_,⟨k,e⟩=>by rw [e]; rfl
 | .tup l,_,⟨a,vs,e,_⟩=>by rw [e]; rfl
 | .lst l,_,⟨a,vs,e,_⟩=>by rw [e]; rfl
 | .ref l,_,⟨a,e,hl⟩=>by rw [e]; rfl
 | .exc c,_,⟨a,o,e,_⟩=>by rw [e]; rfl
theorem zor (R:Rel G t st s) {n:Nat}{X Y:V}{v w:Value}{r:Bool}{A:Around} (e:veq st n X Y=some r) (hX:VRel t s.heap X v) (hY:VRel t s.heap Y w) (h:RR A s v w r):EqAt A s v w r:=by
 by_cases q:v=w
 ·subst q
  cases VRel.inj R X Y hX hY
  rw [za2 st n X r e]
  exact EqAt.same _
 ·exact zih hX.noFlt q h.1
theorem zc3 (R:Rel G t st s):∀ (n:Nat) (X Y:V) (v w:Value) (r:Bool) (A:Around),veq st n X Y=some r→VRel t s.heap X v→VRel t s.heap Y w→A.units + n < cLine→RR A s v w r
 | 0,_,_,_,_,_,_,e,_,_,_=>za e
 | n + 1,X,Y,v,w,r,A,e,hX,hY,hu=>by
  have e:(match zv st X,zv st Y with
   | some p,some q=>if p.1=q.1 then (if p.1=true∧p.2.length≠q.2.length then some false else qy (veq st n) p.2 q.2) else some false
   | some _,Option.none=>x5 Y
   | Option.none,some _=>x5 X
   | Option.none,Option.none=>pj X Y)=some r:=e
  have hu0:A.units < cLine:=Nat.lt_of_le_of_lt (Nat.le_add_right _ _) hu
  cases hx:zv st X with
  | some p =>
   obtain ⟨a,vs,rfl,ia,ra,_⟩:=qo R hX hx
   cases hy:zv st Y with
   | some q =>
    obtain ⟨b,ws,rfl,ib,rb,_⟩:=qo R hY hy
    rw [hx,hy] at e
    have e:(if p.1=q.1 then (if p.1=true∧p.2.length≠q.2.length then some false else qy (veq st n) p.2 q.2) else some false)=some r:=e
    by_cases hk:p.1=q.1
    ·rw [if_pos hk] at e
     rw [← hk] at ib
     exact zms ia ib hu0 ra rb (fun x y v w z hz hx hy=>zor R hz hx hy (zc3 R n x y v w z A.in1 hz hx hy (show A.units + 1 + n < cLine by rw [Nat.add_assoc,Nat.add_comm 1]; exact hu))) e
    ·rw [if_neg hk] at e
     cases e
     exact zjs ia ib hu0 hk
   | none=>rw [hx,hy] at e; exact zmh ia hu0 e hY
  | none =>
   cases hy:zv st Y with
   | some q =>
    obtain ⟨b,ws,rfl,ib,rb,_⟩:=qo R hY hy
    rw [hx,hy] at e
    exact znl ib hu0 e hX
   | none=>rw [hx,hy] at e; exact znh e hX hY
theorem zba (R:Rel G t st s) {n:Nat}{X Y:V}{v w:Value}{r:Bool}{A:Around} (e:veq st n X Y=some r) (hX:VRel t s.heap X v) (hY:VRel t s.heap Y w) (hu:A.units + n < cLine):RR A s v w r:=zc3 R n X Y v w r A e hX hY hu
theorem zhf (R:Rel G t st s) (n:Nat) (X Y:V) (v w:Value) (r:Bool) (A:Around) (e:veq st n X Y=some r) (hX:VRel t s.heap X v) (hY:VRel t s.heap Y w) (hu:A.units + n < cLine):EqAt A s v w r:=zor R e hX hY (zc3 R n X Y v w r A e hX hY hu)
end
end Mine
end
section
namespace Mine
open PySem PySem.W PyProof.Rows PySem.SeqAt
section
variable {G:Gd}{t:Tie}{st:MS}{s:Shared}
theorem zof {st:MS}{x y:V}{l:List V}{r:Bool} (e:vin st x (y :: l)=some r):∃ p q,veq st jv y x=some p∧vin st x l=some q∧r=(p || q):=by
 have e:(match veq st jv y x,vin st x l with | some p,some q=>some (p || q) | _,_=>none)=some r:=e
 cases hp:veq st jv y x with
 | none=>rw [hp] at e; exact za e
 | some p =>
  cases hq:vin st x l with
  | none=>rw [hp,hq] at e; exact za e
  | some q=>rw [hp,hq] at e; cases e; exact ⟨p,q,rfl,rfl,rfl⟩
theorem zap (st:MS) (x:V):∀ (l:List V) (r:Bool),vin st x l=some r→(∀ y∈l,∃ b,veq st jv y x=some b)∧r=l.any fun y=>(veq st jv y x).getD false
 | [],r,e=>by cases e; exact ⟨fun y h=>(by cases h),rfl⟩
 | y :: l,r,e=>by
  obtain ⟨p,q,hp,hq,rfl⟩:=zof e
  obtain ⟨h1,h2⟩:=zap st x l q hq
  refine ⟨fun z hz=>?_,?_⟩
  ·rcases List.mem_cons.mp hz with rfl | hz
   ·exact ⟨p,hp⟩
   ·exact h1 z hz
  ·rw [List.any_cons,hp,h2]; rfl
end
end Mine
end
section
namespace Mine
open PySem PySem.W PyProof.Rows PySem.SeqAt
section
variable {G:Gd}{N:Names}{C:Calls}{d:Dp}{sc:Sc}{Γ:Gam}{t:Tie}{st st':MS}{s:Shared}{A:Around}{X Y Z:V}{v w:Value}
theorem AOk.u12 (h:AOk d A):A.units + jv < cLine:=by have:=h.un; unfold jv; lia
theorem AOk.u1 (h:AOk d A):A.units < cLine:=by have:=h.un; omega
theorem DRel.find {h:Heap}:∀ {dd:List (V×V)}{kvs:List (PySem.Str×Value)}{x:List Nat},DRel t h dd kvs →
  (match jp (.str x) dd with | some X=>∃ y,valueAt kvs (qh x)=some y∧VRel t h X y | none=>valueAt kvs (qh x)=none)
 | [],_,x,e=>by cases e; rfl
 | (k,u) :: r,_,x,⟨z,y,rest,e1,e2,e3,e4⟩=>by
  subst e1 e2
  have ih:=DRel.find (x:=x) e4
  have hh:jp (.str x) ((V.str z,u) :: r)=if decide (z=x)=true then some u else jp (.str x) r:=rfl
  rw [hh]
  by_cases q:z=x
  ·subst q; rw [if_pos (decide_eq_true rfl)]; exact ⟨y,by simp [valueAt],e3⟩
  ·rw [if_neg (by rw [decide_eq_false q]; exact Bool.false_ne_true)]
   have q2:¬ (qh z=qh x):=fun z'=>q (by simpa using congrArg Array.toList (Str.mk.inj z'))
   have:valueAt ((qh z,y) :: rest) (qh x)=valueAt rest (qh x):=by simp [valueAt,q2]
   rw [this]; exact ih
theorem zq1 {h:Heap}:∀ {m:List V}{ws:List Value},VRels t h m ws→∀ p∈m.zip ws,VRel t h p.1 p.2:=by
 intro m
 induction m with
 | nil=>intro ws h p hp; cases h; cases hp
 | cons x m ih =>
  rintro ws ⟨u,r,rfl,h1,h2⟩ p hp
  rcases List.mem_cons.mp hp with rfl | hp
  ·exact h1
  ·exact ih h2 p hp
theorem zu6 {h:Heap}:∀ {m:List V}{ws:List Value},VRels t h m ws→∀ y∈ws,∃ Y',(Y',y)∈m.zip ws:=by
 intro m
 induction m with
 | nil=>intro ws h y hy; cases h; cases hy
 | cons x m ih =>
  rintro ws ⟨u,r,rfl,h1,h2⟩ y hy
  rcases List.mem_cons.mp hy with rfl | hy
  ·exact ⟨x,.head _⟩
  ·obtain ⟨Y',h3⟩:=ih h2 y hy; exact ⟨Y',.tail _ h3⟩
noncomputable def eqs (st:MS) (X:V) (l:List V) (vs:List Value) (y:Value):Bool:=(l.zip vs).any fun p=>decide (p.2=y) && (veq st jv p.1 X).getD false
theorem zjt (R:Rel G t st s) {l:List V}{vs:List Value} (ra:VRels t s.heap l vs) {Y':V}{y:Value} (hin:(Y',y)∈l.zip vs) {z:Bool} (hz:veq st jv Y' X=some z):eqs st X l vs y=z:=by
 cases z with
 | true=>exact List.any_eq_true.mpr ⟨_,hin,by rw [hz,decide_eq_true rfl]; rfl⟩
 | false =>
  refine List.any_eq_false.mpr fun p hp=>?_
  by_cases q:p.2=y
  ·have h3:=zq1 ra p hp
   rw [q] at h3
   rw [VRel.inj R _ _ h3 (zq1 ra _ hin),hz,Option.getD_some,Bool.and_false]; exact Bool.false_ne_true
  ·rw [decide_eq_false q,Bool.false_and]; exact Bool.false_ne_true
theorem zl5 (R:Rel G t st s) {l:List V}{vs:List Value} (ra:VRels t s.heap l vs) (g1:∀ y∈l,∃ z,veq st jv y X=some z):∀ (m:List V) (ws:List Value),VRels t s.heap m ws→(∀ p∈m.zip ws,p∈l.zip vs)→ws.any (eqs st X l vs)=m.any fun y=>(veq st jv y X).getD false:=by
 intro m
 induction m with
 | nil=>intro ws h _; cases h; rfl
 | cons x m ih =>
  rintro ws ⟨u,r,rfl,h1,h2⟩ hsub
  have hin:(x,u)∈l.zip vs:=hsub _ (.head _)
  obtain ⟨z,hz⟩:=g1 x (List.of_mem_zip hin).1
  rw [List.any_cons,List.any_cons,ih r h2 fun p hp=>hsub p (.tail _ hp),zjt R ra hin hz,hz]; rfl
theorem zp3 (R:Rel G t st s) (hA:AOk d A) (hX:VRel t s.heap X v) {l:List V}{vs:List Value} (ra:VRels t s.heap l vs) (g1:∀ y∈l,∃ z,veq st jv y X=some z) {y:Value} (hy:y∈vs):EqAt A.in1 s y v (eqs st X l vs y):=by
 obtain ⟨Y',h1⟩:=zu6 ra y hy
 obtain ⟨z,hz⟩:=g1 Y' (List.of_mem_zip h1).1
 rw [zjt R ra h1 hz]
 exact zhf R _ Y' X y v z A.in1 hz (zq1 ra _ h1) hX (by show A.units + 1 + jv < cLine; have:=hA.un; unfold jv; omega)
noncomputable def aw (G:Gd) (A:Around) (s:Shared) (v w:Value) (b:Bool):Prop :=
 ∃ tk,(∀ (Q:Value→Shared→Prop) (E:Value→Shared→Prop),Q (.bool b) { s with toks:=tk }→wpAny G.M A (compareOp .In v w) Q E s) ∧
  ∀ (Q:Value→Shared→Prop) (E:Value→Shared→Prop),Q (.bool (!b)) { s with toks:=tk }→wpAny G.M A (compareOp .NotIn v w) Q E s
theorem zpx (R:Rel G t st s) (hA:AOk d A) (hX:VRel t s.heap X v) (hY:VRel t s.heap Y w) {k:Bool}{l:List V} (hs:zv st Y=some (k,l)) {b:Bool} (hb:vin st X l=some b):aw G A s v w b:=by
 obtain ⟨a,vs,rfl,ia,ra,_⟩:=qo R hY hs
 obtain ⟨g1,g2⟩:=zap st X l b hb
 have ev:∀ y∈vs,EqAt A.in1 s y v (eqs st X l vs.toList y):=fun y hy=>zp3 R hA hX ra g1 (Array.mem_toList_iff.mpr hy)
 have anyE:vs.any (eqs st X l vs.toList)=b:=by rw [g2,← Array.any_toList]; exact zl5 R ra g1 l vs.toList ra fun p hp=>hp
 cases k with
 | true=>exact ⟨s.toks,fun Q E q=>in_listAt _ (PL.isList ia) ev (by rw [anyE]; exact q),fun Q E q=>notIn_listAt _ (PL.isList ia) ev (by rw [anyE]; exact q)⟩
 | false=>exact ⟨s.toks,fun Q E q=>in_tupleAt _ (PT.isTuple ia) ev (by rw [anyE]; exact q),fun Q E q=>notIn_tupleAt _ (PT.isTuple ia) ev (by rw [anyE]; exact q)⟩
theorem zqf {x y:List Nat}{c:Nat} (hx:x=[c]) (hX:VRel t s.heap (.str x) v) (hY:VRel t s.heap (.str y) w):aw G A s v w (decide (c∈y)):=by
 subst hx
 obtain ⟨k1,rfl⟩:=hX
 obtain ⟨k2,rfl⟩:=hY
 have q:=StrLaws.found_one (qh y) c
 have q2:(qh y).cps.toList=y:=by simp
 rw [q2] at q
 exact ⟨s.toks,fun Q E h=>PyProof.Rows.in_str (by rw [q]; exact h),fun Q E h=>PyProof.Rows.notIn_str (by rw [q]; exact h)⟩
theorem zl9 (R:Rel G t st s) {x:List Nat}{r:Lbl}{dd:List (V×V)} (hX:VRel t s.heap (.str x) v) (hY:VRel t s.heap (.ref r) w) (hdd:st.heap r=some (.dict dd)):aw G A s v w (jp (.str x) dd).isSome:=by
 obtain ⟨a,kvs,h1,h2,h3⟩:=R.objs r _ hdd
 obtain ⟨a',rfl,e2⟩:=hY
 rw [h1] at e2; cases e2
 have hsys:(a == sysModules)=false:=by simp only [beq_eq_false_iff_ne,ne_eq]; rintro rfl; exact R.sys r h1
 obtain ⟨k1,rfl⟩:=hX
 have f:=DRel.find (x:=x) h3
 have this:(valueAt kvs (qh x)).isSome=(jp (.str x) dd).isSome:=by
  cases q:jp (.str x) dd with
  | none=>rw [q] at f; rw [f]; rfl
  | some z=>rw [q] at f; obtain ⟨y,e1,_⟩:=f; rw [e1]; rfl
 exact ⟨s.toks + 1,fun Q E h=>wpAny_in_of (strKind_is G.prog G.w (qh x) k1) hsys h2.mapOf (by rw [this]; exact h),fun Q E h=>wpAny_notIn_of (strKind_is G.prog G.w (qh x) k1) hsys h2.mapOf (by rw [this]; exact h)⟩
theorem znn {y:List Nat}{b:Bool} (e:(match X with | .str [c]=>some (decide (c∈y)) | _=>none)=some b):∃ c,X=.str [c]∧b=decide (c∈y):=by
 cases X with
 | str x=>cases x with
  | nil=>exact za e
  | cons c r=>cases r with
   | nil=>cases e; exact ⟨c,rfl,rfl⟩
   | cons _ _=>exact za e
 | _=>exact za e
theorem zm1 {h:Option MObj}{b:Bool} (e:(match h with | some (.dict l)=>if X.isKey then some (jp X l).isSome else none | _=>none)=some b):∃ x dd,X=.str x∧h=some (.dict dd)∧b=(jp (.str x) dd).isSome:=by
 cases h with
 | none=>exact za e
 | some o=>cases o with
  | dict l=>cases X with
   | str x=>cases e; exact ⟨x,l,rfl,rfl,rfl⟩
   | _=>exact za e
  | _=>exact za e
theorem zib {b:Bool} (hb:cmpOp.memb X Y st=some b):(∃ k l,zv st Y=some (k,l)∧vin st X l=some b)∨(∃ c y,X=.str [c]∧Y=.str y∧b=decide (c∈y))∨∃ x r dd,X=.str x∧Y=.ref r∧st.heap r=some (.dict dd)∧b=(jp (.str x) dd).isSome:=by
 delta cmpOp.memb at hb
 cases hs:zv st Y with
 | some p=>rw [hs] at hb; exact .inl ⟨p.1,p.2,rfl,hb⟩
 | none =>
  rw [hs] at hb
  cases Y with
  | str y=>obtain ⟨c,h1,h2⟩:=znn hb; exact .inr (.inl ⟨c,y,h1,rfl,h2⟩)
  | ref r=>obtain ⟨x,dd,h1,h2,h3⟩:=zm1 hb; exact .inr (.inr ⟨x,r,dd,h1,rfl,h2,h3⟩)
  | _=>exact za hb
theorem fh (R:Rel G t st s) (hA:AOk d A) (hX:VRel t s.heap X v) (hY:VRel t s.heap Y w) {b:Bool} (hb:cmpOp.memb X Y st=some b):aw G A s v w b:=by
 rcases zib hb with ⟨k,l,h1,h2⟩ | ⟨c,y,rfl,rfl,rfl⟩ | ⟨x,r,dd,rfl,rfl,h1,rfl⟩
 ·exact zpx R hA hX hY h1 h2
 ·exact zqf rfl hX hY
 ·exact zl9 R hX hY h1
theorem ph (R:Rel G t st s) {op:CmpOp}{b:Bool} (h:∀ (Q:Value→Shared→Prop) (E:Value→Shared→Prop),Q (.bool b) s→wpAny G.M A (compareOp op v w) Q E s):Sim G A t s (compareOp op v w) st (q7 (.bool b)) :=
 fun Q E k=>h Q E (k _ t s (.refl _ _ _) R rfl)
theorem zh2 {f:Int→Int→Bool} (e:(match X,Y with | .int x,.int y=>Res.ok (V.bool (f x y)) st | _,_=>Res.stuck)=.ok Z st'):∃ x y,X=.int x∧Y=.int y∧Z=.bool (f x y)∧st'=st:=by
 cases X with
 | int x=>cases Y with
  | int y=>cases e; exact ⟨x,y,rfl,rfl,rfl,rfl⟩
  | _=>exact zd e
 | _=>exact zd e
theorem gb {op:CmpOp}{f:Int→Int→Bool} (R:Rel G t st s) (hX:VRel t s.heap X v) (hY:VRel t s.heap Y w) (e:(match (generalizing:=false) X,Y with | .int x,.int y=>Res.ok (V.bool (f x y)) st | _,_=>Res.stuck)=.ok Z st')
  (h:∀ x y k1 k2 (Q:Value→Shared→Prop) (E:Value→Shared→Prop),Q (.bool (f x y)) s→wpAny G.M A (compareOp op (.int x k1) (.int y k2)) Q E s):Sim G A t s (compareOp op v w) st' (q7 Z):=by
 obtain ⟨x,y,rfl,rfl,rfl,rfl⟩:=zh2 e
 obtain ⟨k1,rfl⟩:=hX
 obtain ⟨k2,rfl⟩:=hY
 exact ph R fun Q E q=>h x y k1 k2 Q E q
theorem zpz (R:Rel G t st s) (hA:AOk d A) (hX:VRel t s.heap X v) (hY:VRel t s.heap Y w) (e:cmpOp .eq X Y st=.ok Z st'):Sim G A t s (compareOp .Eq v w) st' (q7 Z):=by
 obtain ⟨b,h1,rfl,rfl⟩:=lj e
 exact ph R fun Q E q=>(zba R h1 hX hY hA.u12).1 _ _ _ _ q
theorem zqw (R:Rel G t st s) (hA:AOk d A) (hX:VRel t s.heap X v) (hY:VRel t s.heap Y w) (e:cmpOp .ne X Y st=.ok Z st'):Sim G A t s (compareOp .NotEq v w) st' (q7 Z):=by
 obtain ⟨b,h1,rfl,rfl⟩:=lj e
 obtain ⟨b',h2,rfl⟩:=Option.map_eq_some_iff.mp h1
 exact ph R fun Q E q=>(zba R h2 hX hY hA.u12).2 _ _ _ _ q
theorem zqq (R:Rel G t st s) (hA:AOk d A) (hX:VRel t s.heap X v) (hY:VRel t s.heap Y w) (e:cmpOp .isin X Y st=.ok Z st'):Sim G A t s (compareOp .In v w) st' (q7 Z):=by
 obtain ⟨b,hb,rfl,rfl⟩:=lj e
 obtain ⟨tk,h,_⟩:=fh R hA hX hY hb
 exact fun Q E k=>h _ _ (k _ t _ (Step.toks _ t s _) (R.toks _) rfl)
theorem zhc (R:Rel G t st s) (hA:AOk d A) (hX:VRel t s.heap X v) (hY:VRel t s.heap Y w) (e:cmpOp .notin X Y st=.ok Z st'):Sim G A t s (compareOp .NotIn v w) st' (q7 Z):=by
 obtain ⟨b,hb,rfl,rfl⟩:=lj e
 obtain ⟨b',h2,rfl⟩:=Option.map_eq_some_iff.mp hb
 obtain ⟨tk,_,h⟩:=fh R hA hX hY h2
 exact fun Q E k=>h _ _ (k _ t _ (Step.toks _ t s _) (R.toks _) rfl)
theorem ye {o:Cop} (R:Rel G t st s) (hA:AOk d A) (hX:VRel t s.heap X v) (hY:VRel t s.heap Y w) (e:cmpOp o X Y st=.ok Z st'):Sim G A t s (compareOp (jj o) v w) st' (q7 Z):=by
 cases o with
 | eq=>exact zpz R hA hX hY e
 | ne=>exact zqw R hA hX hY e
 | lt=>exact gb (f:=fun x y=>decide (x < y)) R hX hY e fun _ _ _ _ Q E q=>PyProof.Rows.lt_int q
 | le=>exact gb (f:=fun x y=>decide (x≤y)) R hX hY e fun _ _ _ _ Q E q=>PyProof.Rows.le_int q
 | gt=>exact gb (f:=fun x y=>decide (y < x)) R hX hY e fun _ _ _ _ Q E q=>PyProof.Rows.gt_int q
 | ge=>exact gb (f:=fun x y=>decide (y≤x)) R hX hY e fun _ _ _ _ Q E q=>PyProof.Rows.ge_int q
 | isin=>exact zqq R hA hX hY e
 | notin=>exact zhc R hA hX hY e
end
end Mine
end
section
namespace Mine
open PySem PySem.W PyProof.Rows PySem.SeqAt
section
variable {G:Gd}{N:Names}{C:Calls}{d:Dp}{sc:Sc}{Γ:Gam}{t:Tie}{st st':MS}{s:Shared}{A:Around}{X Y Z:V}{v w:Value}
theorem qv (h:Heap):h.get? h.objs.size=none:=by
 cases e:h.get? h.objs.size with
 | none=>rfl
 | some o=>exact absurd (Heap.lt_size e) (Nat.lt_irrefl _)
theorem Rel.push (R:Rel G t st s) (o:Obj):Rel G t st { s with heap:=s.heap.push o }:=R.grow (fun _ _ e=>Heap.get?_push_of_some o e) rfl rfl
theorem Step.push (R:Rel G t st s) (o:Obj):Step noX t t s { s with heap:=s.heap.push o }:=Step.grow R (fun _ _ e=>Heap.get?_push_of_some o e) rfl rfl
theorem VRel.newL (R:Rel G t st s) {l:List V}{vs:List Value} (r:VRels t s.heap l vs) (sz:l.length≤zf):VRel t (s.heap.push { cls:=.type "list",data:=.seq vs.toArray }) (.lst l) (.ref s.heap.objs.size) :=
 ⟨_,vs.toArray,rfl,⟨_,Heap.get?_push_size _ rfl⟩,R.fresh (qv _),sz,VRels.step (σ':={ s with heap:=s.heap.push _ }) (Step.push R _) (fun _ q=>q.elim) l r⟩
theorem VRel.newT (R:Rel G t st s) {l:List V}{vs:List Value} (r:VRels t s.heap l vs) (sz:l.length≤zf):VRel t (s.heap.push { cls:=.type "tuple",data:=.seq vs.toArray }) (.tup l) (.ref s.heap.objs.size) :=
 ⟨_,vs.toArray,rfl,⟨_,Heap.get?_push_size _ rfl⟩,R.fresh (qv _),sz,VRels.step (σ':={ s with heap:=s.heap.push _ }) (Step.push R _) (fun _ q=>q.elim) l r⟩
theorem Sim.newL (R:Rel G t st s) {l:List V}{vs:List Value} (r:VRels t s.heap l vs) (sz:l.length≤zf) {tree:Sem Value}
  (h:∀ (Q:Value→Shared→Prop) (E:Value→Shared→Prop),Q (.ref s.heap.objs.size) { s with heap:=s.heap.push { cls:=.type "list",data:=.seq vs.toArray } }→wpAny G.M A tree Q E s):Sim G A t s tree st (q7 (.lst l)) :=
 fun Q E k=>h Q E (k _ t _ (Step.push R _) (R.push _) (VRel.newL R r sz))
theorem Sim.newT (R:Rel G t st s) {l:List V}{vs:List Value} (r:VRels t s.heap l vs) (sz:l.length≤zf) {tree:Sem Value}
  (h:∀ (Q:Value→Shared→Prop) (E:Value→Shared→Prop),Q (.ref s.heap.objs.size) { s with heap:=s.heap.push { cls:=.type "tuple",data:=.seq vs.toArray } }→wpAny G.M A tree Q E s):Sim G A t s tree st (q7 (.tup l)) :=
 fun Q E k=>h Q E (k _ t _ (Step.push R _) (R.push _) (VRel.newT R r sz))
theorem yh (i:Int):intBits i=Builtin.Int.intBits i:=by
 unfold intBits Builtin.Int.intBits
 simp only [beq_iff_eq]
theorem zck {a b:Int} (h:o6 a b=true):IntMulOk a b:=by
 simp only [o6,Bool.or_eq_true,decide_eq_true_eq] at h
 rcases h with (h | h) | h
 ·exact IntMulOk.of_left (by rw [← yh]; exact h)
 ·exact IntMulOk.of_right (by rw [← yh]; exact h)
 ·exact mulOk_of_bits (m:=intBits a) (n:=intBits b) (by rw [yh]; exact Nat.le_refl _) (by rw [yh]; exact Nat.le_refl _) h
theorem zit {x y:Int} (h:¬ 64 < intBits y):Builtin.divisionGoesByPylong x y=false:=by
 delta Builtin.divisionGoesByPylong
 dsimp only
 have:¬ ((if (y == 0)=true then 0 else y.natAbs.log2 / 30 + 1) > 300):=by
  unfold intBits at h
  split
  ·lia
  ·rename_i q
   rw [if_neg (by simpa using q)] at h
   lia
 rw [decide_eq_false this]; rfl
theorem rg {m:List V} (e:zv st X=some (false,m)):X=.tup m:=by
 cases X with
 | tup m=>cases e; rfl
 | lst m=>cases e
 | ref r =>
  have e:(match st.heap r with | some (.list l)=>some (true,l) | _=>none)=some (false,m):=e
  cases h:st.heap r with
  | none=>rw [h] at e; exact za e
  | some o=>rw [h] at e; cases o with
   | list l=>cases e
   | _=>exact za e
 | _=>exact za e
theorem zil {o1 o2:Option (Bool×List V)}{f:Bool×List V→Bool×List V→Res V} (e:(match o1,o2 with | some p,some q=>f p q | _,_=>.stuck)=.ok Z st'):∃ p q,o1=some p∧o2=some q∧f p q=.ok Z st':=by
 cases o1 with
 | none=>exact zd e
 | some p=>cases o2 with
  | none=>exact zd e
  | some q=>exact ⟨p,q,rfl,rfl,e⟩
theorem VRels.nil_of {h:Heap}{l:List V}{vs:Array Value} (r:VRels t h l vs.toList) (q:vs.isEmpty=true):l=[]:=by
 have hz:=r.size
 rw [Array.isEmpty_iff.1 q] at hz
 exact List.length_eq_zero_iff.mp hz.symm
theorem zd3 (vs ws:Array Value):vs ++ ws=(vs.toList ++ ws.toList).toArray:=by
 rw [← Array.toList_append,Array.toArray_toList]
theorem zhm {x y:List V}{a b:Addr}{vs ws:Array Value} (R:Rel G t st s) (ia:PL s.heap a vs) (ib:PL s.heap b ws) (ra:VRels t s.heap x vs.toList) (rb:VRels t s.heap y ws.toList) (hz:x.length + y.length≤zf):Sim G A t s (binaryOp .Add (.ref a) (.ref b)) st (q7 (.lst (x ++ y))):=by
 have hsz:vs.size + ws.size≤sizeLine:=by rw [ra.size,rb.size]; exact hz
 obtain ⟨n,ha⟩:=ia
 obtain ⟨n2,hb⟩:=ib
 exact Sim.newL R (ra.append rb) (by rw [List.length_append]; exact hz) fun Q E q=>P.add_list ha hb (by rw [zd3]; exact q) hsz
theorem zlo {x y:List V}{a b:Addr}{vs ws:Array Value} (R:Rel G t st s) (ia:PT s.heap a vs) (ib:PT s.heap b ws) (ra:VRels t s.heap x vs.toList) (rb:VRels t s.heap y ws.toList) (hz:x.length + y.length≤zf) (hX:VRel t s.heap (.tup x) (.ref a)) (hY:VRel t s.heap (.tup y) (.ref b)):Sim G A t s (binaryOp .Add (.ref a) (.ref b)) st (q7 (.tup (x ++ y))):=by
 have hsz:vs.size + ws.size≤sizeLine:=by rw [ra.size,rb.size]; exact hz
 obtain ⟨n,ha⟩:=ia
 obtain ⟨n2,hb⟩:=ib
 by_cases q1:vs.isEmpty=true
 ·cases ra.nil_of q1
  exact fun Q E k=>concat_meets ⟨_,ha,rfl⟩ ⟨_,hb,rfl⟩ noFill_tuple_add seq_tuple_add PySem.F.slot_tuple_add PySem.F.entry_tuple_add (PySem.F.args_tuple_add_2 _ _) (tuple_addW0 a b vs ws n n2 none none #[] #[] q1) ⟨ha,hb,k _ t s (.refl _ _ _) R hY⟩
 ·by_cases q2:ws.isEmpty=true
  ·cases rb.nil_of q2
   exact fun Q E k=>concat_meets ⟨_,ha,rfl⟩ ⟨_,hb,rfl⟩ noFill_tuple_add seq_tuple_add PySem.F.slot_tuple_add PySem.F.entry_tuple_add (PySem.F.args_tuple_add_2 _ _) (tuple_addW1 a b vs ws n n2 none none #[] #[] q1 q2) ⟨ha,hb,k _ t s (.refl _ _ _) R (by rw [List.append_nil]; exact hX)⟩
  ·exact Sim.newT R (ra.append rb) (by rw [List.length_append]; exact hz) fun Q E q=>P.add_tuple ha hb q1 q2 (by rw [zd3]; exact q) hsz
theorem rh (R:Rel G t st s) (hX:VRel t s.heap X v) (hY:VRel t s.heap Y w) (e:zh5 X Y st=.ok Z st'):Sim G A t s (binaryOp .Add v w) st' (q7 Z):=by
 obtain ⟨⟨k,x⟩,⟨k',y⟩,h1,h2,e⟩:=zil e
 obtain ⟨⟨hk,hz⟩,e⟩:=jw e
 cases (show k=k' from hk)
 obtain ⟨rfl,rfl⟩:=jx e
 obtain ⟨aa,vs,rfl,ia,ra,_⟩:=qo R hX h1
 obtain ⟨bb,ws,rfl,ib,rb,_⟩:=qo R hY h2
 cases k with
 | true=>exact zhm R ia ib ra rb hz
 | false =>
  rw [rg h1] at hX
  rw [rg h2] at hY
  exact zlo R ia ib ra rb hz hX hY
theorem p27:(2:Int) ^ 27=134217728:=by decide
theorem zc9 {x y:List Nat} (R:Rel G t st s) (hX:VRel t s.heap (.str x) v) (hY:VRel t s.heap (.str y) w) (hm:x.length + y.length≤zf):Sim G A t s (binaryOp .Add v w) st (q7 (.str (x ++ y))):=by
 obtain ⟨k1,rfl⟩:=hX; obtain ⟨k2,rfl⟩:=hY
 intro Q E k
 refine PyProof.Rows.add_str (fun t' tk=>?_) ?_
 ·refine k _ t _ (Step.toks _ t s tk) (R.toks tk) ⟨t',?_⟩
  show Value.str (Str.mk x.toArray ++ Str.mk y.toArray) t'=_
  congr 1
  show Str.mk (x.toArray ++ y.toArray)=_
  simp
 ·simpa [Str.length,zf,sizeLine] using hm
theorem u8 {op:Operator}{f:Int→Int→Res V} (R:Rel G t st s) (hX:VRel t s.heap X v) (hY:VRel t s.heap Y w) (e:n8 X Y f=.ok Z st')
  (h:∀ x y,f x y=.ok Z st'→∃ z,(Z=.int z∧st'=st)∧∀ (k1 k2:Tok) (Q:Value→Shared→Prop) (E:Value→Shared→Prop),Q (.int z s.toks) { s with toks:=s.toks + 1 }→wpAny G.M A (binaryOp op (.int x k1) (.int y k2)) Q E s):Sim G A t s (binaryOp op v w) st' (q7 Z):=by
 obtain ⟨x,y,rfl,rfl,e⟩:=zog e
 obtain ⟨z,⟨rfl,rfl⟩,hz⟩:=h x y e
 obtain ⟨k1,rfl⟩:=hX
 obtain ⟨k2,rfl⟩:=hY
 exact fun Q E k=>hz k1 k2 Q E (k _ t _ (Step.toks _ t s _) (R.toks _) ⟨_,rfl⟩)
theorem gv {β:Type}{c:Prop} [Decidable c] {x:Res β}{y:β}{s:MS} (e:(if c then .stuck else x)=.ok y s):¬ c∧x=.ok y s:=by
 by_cases h:c
 ·rw [if_pos h] at e; exact zd e
 ·rw [if_neg h] at e; exact ⟨h,e⟩
theorem zio (R:Rel G t st s) (hX:VRel t s.heap X v) (hY:VRel t s.heap Y w) (e:n8 X Y (fun x y=>if o6 x y then .ok (.int (x * y)) st else .stuck)=.ok Z st'):Sim G A t s (binaryOp .Mult v w) st' (q7 Z) :=
 u8 R hX hY e fun x y e=>⟨_,jx (jw e).2,fun _ _ Q E q=>PyProof.Rows.mul_int q (zck (jw e).1)⟩
theorem zjd (R:Rel G t st s) (hX:VRel t s.heap X v) (hY:VRel t s.heap Y w) (e:n8 X Y (fun x y=>.ok (.int (x + y)) st)=.ok Z st'):Sim G A t s (binaryOp .Add v w) st' (q7 Z) :=
 u8 R hX hY e fun x y e=>⟨_,jx e,fun _ _ Q E q=>PyProof.Rows.add_int q⟩
theorem zfb (R:Rel G t st s) (hX:VRel t s.heap X v) (hY:VRel t s.heap Y w) (e:wa .fdiv X Y st=.ok Z st'):Sim G A t s (binaryOp .FloorDiv v w) st' (q7 Z) :=
 u8 R hX hY e fun x y e=>⟨_,jx (gv e).2,fun _ _ Q E q=>PyProof.Rows.floordiv_int (fun z=>(gv e).1 (.inl z)) q (.inl (zit fun z=>(gv e).1 (.inr z)))⟩
theorem zjv (R:Rel G t st s) (hX:VRel t s.heap X v) (hY:VRel t s.heap Y w) (e:wa .mod X Y st=.ok Z st'):Sim G A t s (binaryOp .Mod v w) st' (q7 Z) :=
 u8 R hX hY e fun x y e=>⟨_,jx (gv e).2,fun _ _ Q E q=>PyProof.Rows.mod_int' (gv e).1 q⟩
theorem zkv (R:Rel G t st s) (hX:VRel t s.heap X v) (hY:VRel t s.heap Y w) (e:wa .pow X Y st=.ok Z st'):Sim G A t s (binaryOp .Pow v w) st' (q7 Z) :=
 u8 R hX hY e fun x y e=>⟨_,jx (jw e).2,fun _ _ Q E q=>PyProof.Rows.pow_int (jw e).1.1 (by rw [← yh,p27]; exact (jw e).1.2) q⟩
theorem zi3 (R:Rel G t st s) (hX:VRel t s.heap X v) (hY:VRel t s.heap Y w) (e:wa .sub X Y st=.ok Z st'):Sim G A t s (binaryOp .Sub v w) st' (q7 Z) :=
 u8 R hX hY e fun x y e=>⟨_,jx e,fun _ _ Q E q=>PyProof.Rows.sub_int q⟩
theorem zlm {x:List Nat} (R:Rel G t st s) (hX:VRel t s.heap (.str x) v) (hY:VRel t s.heap Y w) (e:zp7 (.str x) Y (fun x y=>if x.length + y.length≤zf then .ok (.str (x ++ y)) st else .stuck)=.ok Z st'):Sim G A t s (binaryOp .Add v w) st' (q7 Z):=by
 obtain ⟨x,y,ex,rfl,e⟩:=zoi e
 cases ex
 obtain ⟨hm,e⟩:=jw e
 obtain ⟨rfl,rfl⟩:=jx e
 exact zc9 R hX hY hm
theorem zgb {o:Bop} (O:G.Ok N) (R:Rel G t st s) (hA:AOk d A) (hX:VRel t s.heap X v) (hY:VRel t s.heap Y w) (e:wa o X Y st=.ok Z st'):Sim G A t s (binaryOp (zq0 o) v w) st' (q7 Z):=by
 cases o with
 | add =>
  cases X with
  | int x=>exact zjd R hX hY e
  | str x=>exact zlm R hX hY e
  | _=>exact rh R hX hY e
 | sub=>exact zi3 R hX hY e
 | mul=>exact zio R hX hY e
 | fdiv=>exact zfb R hX hY e
 | mod=>exact zjv R hX hY e
 | pow=>exact zkv R hX hY e
end
end Mine
end
section
namespace Mine
open PySem PySem.W PyProof.Rows PySem.SeqAt
section
variable {G:Gd}{N:Names}{C:Calls}{d:Dp}{sc:Sc}{Γ:Gam}
theorem xa {X:V}{st st':MS}{b:Bool} (e:vn X st=.ok b st'):X=.bool b∧st'=st:=by
 cases X <;> first | (cases e; exact ⟨rfl,rfl⟩) | exact zd e
theorem zol {a:E}{x:PySem.Expr}{pos:Pos} (ha:qb G C d sc Γ a x):qb G C d sc Γ (.neg a) (.UnaryOp .USub x pos):=by
 intro t st s env loc X st' A hA hsc F R e Q E k
 rw [zqx] at e
 obtain ⟨v,s1,e1,e⟩:=Res.bind_ok e
 split at e
 ·cases e
  refine wpAny_UnaryOp (ha t st s env loc _ _ A hA hsc F R e1 _ _ fun y t1 σ1 S1 R1 r1=>?_)
  obtain ⟨k1,rfl⟩:=r1
  exact neg_int (k _ t1 _ (S1.trans (Step.toks _ t1 σ1 _)) (R1.toks _) ⟨_,rfl⟩)
 ·exact zd e
theorem zmo {a:E}{x:PySem.Expr}{pos:Pos} (ha:qb G C d sc Γ a x):qb G C d sc Γ (.not a) (.UnaryOp .Not x pos):=by
 intro t st s env loc X st' A hA hsc F R e Q E k
 rw [zc8] at e
 obtain ⟨v,s1,e1,e⟩:=Res.bind_ok e
 obtain ⟨b,s2,e2,e⟩:=Res.bind_ok e
 obtain ⟨rfl,rfl⟩:=xa e2
 cases e
 refine wpAny_UnaryOp (ha t st s env loc _ _ A hA hsc F R e1 _ _ fun y t1 σ1 S1 R1 r1=>?_)
 cases r1
 exact not_of (wpAny_truthy_bool (k _ t1 _ S1 R1 rfl))
theorem znj (O:G.Ok N) {o:Bop}{a b:E}{x y:PySem.Expr}{pos:Pos} (ha:qb G C d sc Γ a x) (hb:qb G C d sc Γ b y):qb G C d sc Γ (.bin o a b) (.BinOp x (zq0 o) y pos):=by
 intro t st s env loc X st' A hA hsc F R e Q E k
 rw [zlw] at e
 obtain ⟨v1,s1,e1,e⟩:=Res.bind_ok e
 obtain ⟨v2,s2,e2,e⟩:=Res.bind_ok e
 refine wpAny_BinOp (ha t st s env loc _ _ A hA hsc F R e1 _ _ fun u t1 σ1 S1 R1 r1=>?_)
 refine hb t1 s1 σ1 env loc _ _ A hA hsc (F.step R S1) R1 e2 _ _ fun w t2 σ2 S2 R2 r2=>?_
 exact zgb O R2 hA (VRel.step S2 (fun _ z=>z.elim) _ r1) r2 e _ _ fun z t3 σ3 S3 R3 r3=>k z t3 σ3 ((S1.trans S2).trans S3) R3 r3
theorem znf {o:Cop}{a b:E}{x y:PySem.Expr}{pos:Pos} (hm:behindInMarks (jj o) y=false) (ha:qb G C d sc Γ a x) (hb:qb G C d sc Γ b y):qb G C d sc Γ (.cmp a o b) (.Compare x [jj o] [y] pos):=by
 intro t st s env loc X st' A hA hsc F R e Q E k
 rw [zci] at e
 obtain ⟨v1,s1,e1,e⟩:=Res.bind_ok e
 obtain ⟨v2,s2,e2,e⟩:=Res.bind_ok e
 refine wpAny_Compare1 (ha t st s env loc _ _ A hA hsc F R e1 _ _ fun u t1 σ1 S1 R1 r1=>?_) hm
 refine hb t1 s1 σ1 env loc _ _ A hA hsc (F.step R S1) R1 e2 _ _ fun w t2 σ2 S2 R2 r2=>?_
 exact ye R2 hA (VRel.step S2 (fun _ z=>z.elim) _ r1) r2 e _ _ fun z t3 σ3 S3 R3 r3=>k z t3 σ3 ((S1.trans S2).trans S3) R3 r3
theorem zqe (pos:Pos) (left:Value) (op op2:CmpOp) (r r2:Sem Value):compareChain pos left [op,op2] [r,r2]=(do
  let rv ← holding [left] r
  standAt pos
  let c ← holding [left,rv] (compareOp op left rv)
  release [left,rv] [c]
  if ← holding [c,rv] (truthy c) then compareChain pos rv [op2] [r2] else pure c):=rfl
theorem zp4 (pos:Pos) (left:Value) (op:CmpOp) (r:Sem Value):compareChain pos left [op] [r]=(do
  let rv ← holding [left] r
  standAt pos
  operate [left,rv] (compareOp op left rv)):=rfl
theorem zh7 {o o2:Cop}{a b c:E}{x y z:PySem.Expr}{pos:Pos} (hm:behindInMarks (jj o2) z=false) (ha:qb G C d sc Γ a x) (hb:qb G C d sc Γ b y) (hc:qb G C d sc Γ c z) :
  qb G C d sc Γ (.cmp2 a o b o2 c) (.Compare x [jj o,jj o2] [y,z] pos):=by
 intro t st s env loc X st' A hA hsc F R e Q E k
 rw [sh] at e
 obtain ⟨v1,s1,e1,e⟩:=Res.bind_ok e
 obtain ⟨v2,s2,e2,e⟩:=Res.bind_ok e
 obtain ⟨v3,s3,e3,e⟩:=Res.bind_ok e
 obtain ⟨b3,s4,e4,ee⟩:=Res.bind_ok e
 obtain ⟨rfl,rfl⟩:=xa e4
 have mk:markedEach [jj o,jj o2] [y,z] (evalEach [y,z] env)=[eval y env,eval z env]:=by
  show eval y env :: [markedBehindIn (jj o2) z (eval z env)]=_
  rw [markedBehindIn_of_false hm]
 show wpAny G.M A (do compareChain pos (← eval x env) [jj o,jj o2] (markedEach [jj o,jj o2] [y,z] (evalEach [y,z] env))) Q E s
 rw [mk]
 refine wpAny_bind (ha t st s env loc _ _ A hA hsc F R e1 _ _ fun u t1 σ1 S1 R1 r1=>?_)
 rw [zqe]
 refine wpAny_bind (wpAny_holding (hb t1 s1 σ1 env loc _ _ A hA hsc (F.step R S1) R1 e2 _ _ fun w t2 σ2 S2 R2 r2=>?_))
 refine wpAny_bind (wpAny_standAt (wpAny_bind (wpAny_holding ?_)))
 refine ye R2 hA (VRel.step S2 (fun _ z=>z.elim) _ r1) r2 e3 _ _ fun q t3 σ3 S3 R3 r3=>?_
 cases r3
 refine wpAny_bind (wpAny_release (wpAny_bind (wpAny_holding (wpAny_truthy_bool ?_))))
 cases b3 with
 | false =>
  simp only [Bool.false_eq_true,if_false] at ee ⊢
  cases ee
  exact wpAny_pure (k _ t3 σ3 ((S1.trans S2).trans S3) R3 rfl)
 | true =>
  simp only [if_true] at ee ⊢
  obtain ⟨v5,s5,e5,e6⟩:=Res.bind_ok ee
  rw [zp4]
  refine wpAny_bind (wpAny_holding (hc t3 _ σ3 env loc _ _ A hA hsc (((F.step R S1).step R1 S2).step R2 S3) R3 e5 _ _ fun w' t4 σ4 S4 R4 r4=>?_))
  refine wpAny_bind (wpAny_standAt (wpAny_operating ?_))
  exact ye R4 hA (VRel.step (S3.trans S4) (fun _ z=>z.elim) _ r2) r4 e6 _ _ fun z t5 σ5 S5 R5 r5=>k z t5 σ5 ((((S1.trans S2).trans S3).trans S4).trans S5) R5 r5
theorem VRel.notB {t:Tie}{h:Heap}{X:V}{v:Value} (r:VRel t h X v):∀ i,v≠.builtin i:=by
 intro i q
 subst q
 cases X with
 | none=>cases r
 | bool=>cases r
 | int=>obtain ⟨_,e⟩:=r; cases e
 | str=>obtain ⟨_,e⟩:=r; cases e
 | tup=>obtain ⟨_,_,e,_⟩:=r; cases e
 | lst=>obtain ⟨_,_,e,_⟩:=r; cases e
 | ref=>obtain ⟨_,e,_⟩:=r; cases e
 | exc=>obtain ⟨_,_,e,_⟩:=r; cases e
theorem zl2 {n:Bool}{a:E}{x:PySem.Expr}{p:CmpOp}{pos p2:Pos}{j:Nat} (hp:tt p n=true) (ha:qb G C d sc Γ a x):qb G C d sc Γ (.isC n a .none) (.Compare x [p] [.Constant .none j p2] pos):=by
 intro t st s env loc X st' A hA hsc F R e Q E k
 rw [zcj] at e
 obtain ⟨v,s1,e1,e⟩:=Res.bind_ok e
 cases e
 refine wpAny_Compare1 (ha t st s env loc _ _ A hA hsc F R e1 _ _ fun u t1 σ1 S1 R1 r1=>?_) rfl
 refine wpAny_Constant_none ?_
 have key:(u == Value.none)=decide (v=.none):=by
  cases v with
  | none=>cases r1; (first | exact (decide_eq_true rfl).symm | exact (decide_eq_false nofun).symm)
  | bool=>cases r1; (first | exact (decide_eq_true rfl).symm | exact (decide_eq_false nofun).symm)
  | int=>obtain ⟨_,rfl⟩:=r1; (first | exact (decide_eq_true rfl).symm | exact (decide_eq_false nofun).symm)
  | str=>obtain ⟨_,rfl⟩:=r1; (first | exact (decide_eq_true rfl).symm | exact (decide_eq_false nofun).symm)
  | tup=>obtain ⟨_,_,rfl,_⟩:=r1; (first | exact (decide_eq_true rfl).symm | exact (decide_eq_false nofun).symm)
  | lst=>obtain ⟨_,_,rfl,_⟩:=r1; (first | exact (decide_eq_true rfl).symm | exact (decide_eq_false nofun).symm)
  | ref=>obtain ⟨_,rfl,_⟩:=r1; (first | exact (decide_eq_true rfl).symm | exact (decide_eq_false nofun).symm)
  | exc=>obtain ⟨_,_,rfl,_⟩:=r1; (first | exact (decide_eq_true rfl).symm | exact (decide_eq_false nofun).symm)
 cases p <;> simp only [tt] at hp <;> (try contradiction)
 ·have:n=false:=by simpa using hp
  subst this
  exact is_none (k _ t1 _ S1 R1 (by rw [key]; show Value.bool _=Value.bool _; congr 1; cases decide (v=V.none) <;> rfl))
 ·have:n=true:=hp
  subst this
  exact isNot_none (k _ t1 _ S1 R1 (by rw [key]; show Value.bool _=Value.bool _; congr 1; cases decide (v=V.none) <;> rfl))
theorem zmx {l:List E}{m:List PySem.Expr}{j:Nat}{pos:Pos} (h:v7 G C d sc Γ l m):qb G C d sc Γ (.tup l) (.Tuple m j pos):=by
 intro t st s env loc X st' A hA hsc F R e Q E k
 rw [zkg] at e
 obtain ⟨vs,s1,e1,e⟩:=Res.bind_ok e
 split at e
 ·rename_i hz
  cases e
  refine wpAny_Tuple (h pos t st s env loc _ _ A hA hsc F R e1 _ _ fun ys t1 σ1 S1 R1 r1=>⟨by rw [r1.length]; exact hz,?_⟩)
  exact k _ t1 _ (S1.trans (Step.push R1 _)) (R1.push _) (VRel.newT R1 r1 hz)
 ·exact zd e
theorem zm7 {l:List E}{m:List PySem.Expr}{pos:Pos} (h:v7 G C d sc Γ l m):qb G C d sc Γ (.lst l) (.List m pos):=by
 intro t st s env loc X st' A hA hsc F R e Q E k
 rw [zls] at e
 obtain ⟨vs,s1,e1,e⟩:=Res.bind_ok e
 split at e
 ·rename_i hz
  cases e
  refine wpAny_List (h pos t st s env loc _ _ A hA hsc F R e1 _ _ fun ys t1 σ1 S1 R1 r1=>⟨by rw [r1.length]; exact hz,?_⟩)
  exact k _ t1 _ (S1.trans (Step.push R1 _)) (R1.push _) (VRel.newL R1 r1 hz)
 ·exact zd e
theorem Rel.size_sys (O:G.Ok N) {t:Tie}{st:MS}{s:Shared} (R:Rel G t st s):s.heap.objs.size≠sysModules:=by
 obtain ⟨mc,⟨o,es,ep,ho,_⟩,_⟩:=O.lim
 have:=Heap.lt_size (R.base _ _ ho)
 intro q
 rw [q] at this
 exact absurd this (by decide)
theorem zko (O:G.Ok N) {kd:Nat}{l:List E}{m:List PySem.Expr}{pos:Pos} (h:v7 G C d sc Γ l m):qb G C d sc Γ (.lstM kd l) (.List m pos):=by
 intro t st s env loc X st' A hA hsc F R e Q E k
 rw [zmv] at e
 obtain ⟨vs,s1,e1,e⟩:=Res.bind_ok e
 split at e
 ·rename_i hz
  cases e
  refine wpAny_List (h pos t st s env loc _ _ A hA hsc F R e1 _ _ fun ys t1 σ1 S1 R1 r1=>⟨by rw [r1.length]; exact hz,?_⟩)
  have S2:=Step.bind (k:=kd) (d:=none) (s':={ σ1 with heap:=σ1.heap.push { cls:=.type "list",data:=.seq ys.toArray } }) R1 (fun _ _ e=>Heap.get?_push_of_some _ e) rfl rfl (qv _) (fun x e=>by exact za e)
  have rho:(t1.bind (kd,s1.cnt kd) σ1.heap.objs.size none).ρ (kd,s1.cnt kd)=some σ1.heap.objs.size:=by simp [Tie.bind]
  refine k _ _ _ (S1.trans S2) (Rel.bind R1 (fun _ _ e=>Heap.get?_push_of_some _ e) rfl rfl (qv _) (fun x e=>by exact za e) ?_ (R1.size_sys O) ⟨_,ys.toArray,rho,⟨_,Heap.get?_push_size _ rfl⟩,hz,VRels.step S2 (fun _ q=>q.elim) _ r1⟩) ⟨_,rfl,rho⟩
  show ((σ1.heap.push _).get? _).isSome=true; rw [Heap.get?_push_size _ rfl]; rfl
 ·exact zd e
end
end Mine
end
section
namespace Mine
open PySem PySem.W PyProof.Rows PySem.SeqAt
noncomputable def bz (G:Gd) (C:Calls) (d:Dp) (sc:Sc) (Γ:Gam) (e:E) (ast:PySem.Expr):Prop :=
 ∀ t st s env loc b st' A,AOk d A→env.scope.names=sc→FrOk G A t env Γ loc s→Rel G t st s→ev G.P C e loc st=.ok (.bool b) st'→Sim G A t s (isTrue ast env (eval ast env)) st' (fun _ _ b'=>b'=b)
inductive SimL (G:Gd) (C:Calls) (d:Dp) (sc:Sc) (Γ:Gam):List E→List PySem.Expr→Prop
 | nil:SimL G C d sc Γ [] []
 | cons {e:E}{l:List E}{x:PySem.Expr}{m:List PySem.Expr}:qb G C d sc Γ e x→bz G C d sc Γ e x→SimL G C d sc Γ l m→SimL G C d sc Γ (e :: l) (x :: m)
noncomputable def tq:PySem.Expr→Bool
 | .UnaryOp .Not _ _ | .BoolOp .. | .IfExp .. | .Compare ..=>false
 | _=>true
section
variable {G:Gd}{N:Names}{C:Calls}{d:Dp}{sc:Sc}{Γ:Gam}
set_option backward.match.sparseCases true in
theorem zew {pos:Pos}:∀ {l:List E}{m:List PySem.Expr},SimL G C d sc Γ l m→∀ t st s env loc X st' A,AOk d A→env.scope.names=sc→FrOk G A t env Γ loc s→Rel G t st s→gx G.P C l loc st=.ok X st' →
  Sim G A t s (boolOp pos .And (evalEach m env)) st' (q7 X)
 | [],_,_=>by intro t st s env loc X st' A hA hsc F R e; simp only [yb,vb,xe] at e; exact zd e
 | [e],_,.cons he _ .nil=>by
  intro t st s env loc X st' A hA hsc F R q Q E k
  simp only [yb,vb,xe] at q
  exact he t st s env loc X st' A hA hsc F R q Q E k
 | e :: e' :: l,_,.cons he _ (.cons (x:=x') (m:=m') he' ht' r)=>by
  intro t st s env loc X st' A hA hsc F R q Q E k
  simp only [yb,vb,xe] at q
  obtain ⟨v,s1,q1,q⟩:=Res.bind_ok q
  obtain ⟨b,s2,q2,qq⟩:=Res.bind_ok q
  obtain ⟨rfl,rfl⟩:=xa q2
  show wpAny G.M A (do
   let v ← eval _ env
   standAt pos
   let t ← holding [v] (truthy v)
   match BoolOp.And,t with
   | .And,false | .Or,true=>pure v
   | _,_=>boolOp pos .And (evalEach (x' :: m') env)) Q E s
  refine wpAny_bind (he t st s env loc _ _ A hA hsc F R q1 _ _ fun u t1 σ1 S1 R1 r1=>?_)
  cases r1
  refine wpAny_bind (wpAny_standAt (wpAny_bind (wpAny_holding (wpAny_truthy_bool ?_))))
  cases b with
  | false=>simp only [Bool.false_eq_true,if_false] at qq; cases qq; exact wpAny_pure (k _ t1 σ1 S1 R1 rfl)
  | true =>
   simp only [if_true] at qq
   exact zew (.cons he' ht' r) t1 _ σ1 env loc X st' A hA hsc (F.step R S1) R1 qq Q E fun u t2 σ2 S2 R2 r2=>k u t2 σ2 (S1.trans S2) R2 r2
set_option backward.match.sparseCases true in
theorem zkx {pos:Pos}:∀ {l:List E}{m:List PySem.Expr},SimL G C d sc Γ l m→∀ t st s env loc X st' A,AOk d A→env.scope.names=sc→FrOk G A t env Γ loc s→Rel G t st s→im G.P C l loc st=.ok X st' →
  Sim G A t s (boolOp pos .Or (evalEach m env)) st' (q7 X)
 | [],_,_=>by intro t st s env loc X st' A hA hsc F R e; simp only [y9,yl,kj] at e; exact zd e
 | [e],_,.cons he _ .nil=>by
  intro t st s env loc X st' A hA hsc F R q Q E k
  simp only [y9,yl,kj] at q
  exact he t st s env loc X st' A hA hsc F R q Q E k
 | e :: e' :: l,_,.cons he _ (.cons (x:=x') (m:=m') he' ht' r)=>by
  intro t st s env loc X st' A hA hsc F R q Q E k
  simp only [y9,yl,kj] at q
  obtain ⟨v,s1,q1,q⟩:=Res.bind_ok q
  obtain ⟨b,s2,q2,qq⟩:=Res.bind_ok q
  obtain ⟨rfl,rfl⟩:=xa q2
  show wpAny G.M A (do
   let v ← eval _ env
   standAt pos
   let t ← holding [v] (truthy v)
   match BoolOp.Or,t with
   | .And,false | .Or,true=>pure v
   | _,_=>boolOp pos .Or (evalEach (x' :: m') env)) Q E s
  refine wpAny_bind (he t st s env loc _ _ A hA hsc F R q1 _ _ fun u t1 σ1 S1 R1 r1=>?_)
  cases r1
  refine wpAny_bind (wpAny_standAt (wpAny_bind (wpAny_holding (wpAny_truthy_bool ?_))))
  cases b with
  | true=>simp only [if_true] at qq; cases qq; exact wpAny_pure (k _ t1 σ1 S1 R1 rfl)
  | false =>
   simp only [Bool.false_eq_true,if_false] at qq
   exact zkx (.cons he' ht' r) t1 _ σ1 env loc X st' A hA hsc (F.step R S1) R1 qq Q E fun u t2 σ2 S2 R2 r2=>k u t2 σ2 (S1.trans S2) R2 r2
theorem zjk {l:List E}{m:List PySem.Expr}{pos:Pos} (h:SimL G C d sc Γ l m):qb G C d sc Γ (.and l) (.BoolOp .And m pos):=by
 intro t st s env loc X st' A hA hsc F R e
 rw [lz] at e
 exact zew h t st s env loc X st' A hA hsc F R e
theorem zn3 {l:List E}{m:List PySem.Expr}{pos:Pos} (h:SimL G C d sc Γ l m):qb G C d sc Γ (.or l) (.BoolOp .Or m pos):=by
 intro t st s env loc X st' A hA hsc F R e
 rw [zb4] at e
 exact zkx h t st s env loc X st' A hA hsc F R e
theorem zb7 {e:E}{x:PySem.Expr} (hx:tq x=true) (h:qb G C d sc Γ e x):bz G C d sc Γ e x:=by
 intro t st s env loc b st' A hA hsc F R q Q E k
 have he:isTrue x env (eval x env)=(do let v ← eval x env; standAt x.pos; holding [v] (truthy v)):=by
  cases x <;> first | rfl | (cases hx; done) | skip
  rename_i op _ _
  cases op <;> first | rfl | exact qg hx
 rw [he]
 refine wpAny_bind (h t st s env loc _ _ A hA hsc F R q _ _ fun u t1 σ1 S1 R1 r1=>?_)
 cases r1
 exact wpAny_bind (wpAny_standAt (wpAny_holding (wpAny_truthy_bool (k _ t1 σ1 S1 R1 rfl))))
theorem zi5 {a:E}{x:PySem.Expr}{pos:Pos} (ha:bz G C d sc Γ a x):bz G C d sc Γ (.not a) (.UnaryOp .Not x pos):=by
 intro t st s env loc b st' A hA hsc F R e Q E k
 rw [zc8] at e
 obtain ⟨v,s1,e1,e⟩:=Res.bind_ok e
 obtain ⟨c,s2,e2,ee⟩:=Res.bind_ok e
 obtain ⟨rfl,rfl⟩:=xa e2
 cases ee
 refine wpAny_isTrue_Not (ha t st s env loc _ _ A hA hsc F R e1 _ _ fun u t1 σ1 S1 R1 r1=>?_)
 subst r1
 exact k _ t1 σ1 S1 R1 rfl
theorem zbx:∀ {l:List E}{m:List PySem.Expr},SimL G C d sc Γ l m→∀ t st s env loc b st' A,AOk d A→env.scope.names=sc→FrOk G A t env Γ loc s→Rel G t st s→gx G.P C l loc st=.ok (.bool b) st' →
  Sim G A t s (PySem.allTrue .And m env) st' (fun _ _ b'=>b'=b)
 | [],_,_=>by intro t st s env loc X st' A hA hsc F R e; simp only [yb,vb,xe] at e; exact zd e
 | [e],_,.cons (x:=x) he ht .nil=>by
  intro t st s env loc b st' A hA hsc F R q Q E k
  simp only [yb,vb,xe] at q
  refine wpAny_allTrue_And_cons (ht t st s env loc b st' A hA hsc F R q _ _ fun u t1 σ1 S1 R1 r1=>?_)
  subst r1
  cases u with
  | false=>exact k _ t1 σ1 S1 R1 rfl
  | true=>exact wpAny_allTrue_And_nil (k _ t1 σ1 S1 R1 rfl)
 | e :: e' :: l,_,.cons he ht (.cons (x:=x') (m:=m') he' ht' r)=>by
  intro t st s env loc b st' A hA hsc F R q Q E k
  simp only [yb,vb,xe] at q
  obtain ⟨v,s1,q1,q⟩:=Res.bind_ok q
  obtain ⟨c,s2,q2,qq⟩:=Res.bind_ok q
  obtain ⟨rfl,rfl⟩:=xa q2
  refine wpAny_allTrue_And_cons (ht t st s env loc _ _ A hA hsc F R q1 _ _ fun u t1 σ1 S1 R1 r1=>?_)
  subst r1
  cases u with
  | false=>simp only [Bool.false_eq_true,if_false] at qq; cases qq; exact k _ t1 σ1 S1 R1 rfl
  | true =>
   simp only [if_true] at qq
   exact zbx (.cons he' ht' r) t1 _ σ1 env loc b st' A hA hsc (F.step R S1) R1 qq Q E fun u t2 σ2 S2 R2 r2=>k u t2 σ2 (S1.trans S2) R2 r2
theorem zem:∀ {l:List E}{m:List PySem.Expr},SimL G C d sc Γ l m→∀ t st s env loc b st' A,AOk d A→env.scope.names=sc→FrOk G A t env Γ loc s→Rel G t st s→im G.P C l loc st=.ok (.bool b) st' →
  Sim G A t s (PySem.allTrue .Or m env) st' (fun _ _ b'=>b'=b)
 | [],_,_=>by intro t st s env loc X st' A hA hsc F R e; simp only [y9,yl,kj] at e; exact zd e
 | [e],_,.cons (x:=x) he ht .nil=>by
  intro t st s env loc b st' A hA hsc F R q Q E k
  simp only [y9,yl,kj] at q
  refine wpAny_allTrue_Or_cons (ht t st s env loc b st' A hA hsc F R q _ _ fun u t1 σ1 S1 R1 r1=>?_)
  subst r1
  cases u with
  | true=>exact k _ t1 σ1 S1 R1 rfl
  | false=>exact wpAny_allTrue_Or_nil (k _ t1 σ1 S1 R1 rfl)
 | e :: e' :: l,_,.cons he ht (.cons (x:=x') (m:=m') he' ht' r)=>by
  intro t st s env loc b st' A hA hsc F R q Q E k
  simp only [y9,yl,kj] at q
  obtain ⟨v,s1,q1,q⟩:=Res.bind_ok q
  obtain ⟨c,s2,q2,qq⟩:=Res.bind_ok q
  obtain ⟨rfl,rfl⟩:=xa q2
  refine wpAny_allTrue_Or_cons (ht t st s env loc _ _ A hA hsc F R q1 _ _ fun u t1 σ1 S1 R1 r1=>?_)
  subst r1
  cases u with
  | true=>simp only [if_true] at qq; cases qq; exact k _ t1 σ1 S1 R1 rfl
  | false =>
   simp only [Bool.false_eq_true,if_false] at qq
   exact zem (.cons he' ht' r) t1 _ σ1 env loc b st' A hA hsc (F.step R S1) R1 qq Q E fun u t2 σ2 S2 R2 r2=>k u t2 σ2 (S1.trans S2) R2 r2
theorem zga {l:List E}{m:List PySem.Expr}{pos:Pos} (h:SimL G C d sc Γ l m):bz G C d sc Γ (.and l) (.BoolOp .And m pos):=by
 intro t st s env loc X st' A hA hsc F R e
 rw [lz] at e
 exact zbx h t st s env loc X st' A hA hsc F R e
theorem zj8 {l:List E}{m:List PySem.Expr}{pos:Pos} (h:SimL G C d sc Γ l m):bz G C d sc Γ (.or l) (.BoolOp .Or m pos):=by
 intro t st s env loc X st' A hA hsc F R e
 rw [zb4] at e
 exact zem h t st s env loc X st' A hA hsc F R e
theorem f9 {M:Model}{A:Around}{E:Value→Shared→Prop}{s:Shared}{env:Env}{x y:PySem.Expr}{op:CmpOp}{pos:Pos}{Q:Bool→Shared→Prop} (hm:behindInMarks op y=false)
  (h:wpAny M A (eval x env) (fun a s₁=>wpAny M A (eval y env) (fun b s₂=>wpAny M A (compareOp op a b) (fun c s₃=>∃ z,c=.bool z∧Q z s₃) E s₂) E s₁) E s) :
  wpAny M A (isTrue (.Compare x [op] [y] pos) env (eval (.Compare x [op] [y] pos) env)) Q E s:=by
 refine wpAny_isTrue_Compare1 (wpAny_mono h (fun a s₁ h₁=>wpAny_mono h₁ (fun b s₂ h₂=>wpAny_mono h₂ (fun c s₃ h₃=>?_) fun _ _ e=>e) fun _ _ e=>e) fun _ _ e=>e) hm
 obtain ⟨z,rfl,hz⟩:=h₃
 exact wpAny_truthy_bool hz
theorem zke {o:Cop}{a b:E}{x y:PySem.Expr}{pos:Pos} (hm:behindInMarks (jj o) y=false) (ha:qb G C d sc Γ a x) (hb:qb G C d sc Γ b y):bz G C d sc Γ (.cmp a o b) (.Compare x [jj o] [y] pos):=by
 intro t st s env loc c st' A hA hsc F R e Q E k
 rw [zci] at e
 obtain ⟨v1,s1,e1,e⟩:=Res.bind_ok e
 obtain ⟨v2,s2,e2,e⟩:=Res.bind_ok e
 refine f9 hm (ha t st s env loc _ _ A hA hsc F R e1 _ _ fun u t1 σ1 S1 R1 r1=>?_)
 refine hb t1 s1 σ1 env loc _ _ A hA hsc (F.step R S1) R1 e2 _ _ fun w t2 σ2 S2 R2 r2=>?_
 exact ye R2 hA (VRel.step S2 (fun _ z=>z.elim) _ r1) r2 e _ _ fun z t3 σ3 S3 R3 r3=>⟨c,r3,k c t3 σ3 ((S1.trans S2).trans S3) R3 rfl⟩
theorem zvk (pos:Pos) (left:Value) (op op2:CmpOp) (r r2:Sem Value):testChain pos left [op,op2] [r,r2]=(do
  let rv ← holding [left] r
  standAt pos
  let c ← holding [left,rv] (compareOp op left rv)
  release [left,rv] [c]
  if ← holding [c,rv] (truthy c) then testChain pos rv [op2] [r2] else pure false):=rfl
theorem zr4 (pos:Pos) (left:Value) (op:CmpOp) (r:Sem Value):testChain pos left [op] [r]=(do
  let rv ← holding [left] r
  standAt pos
  let c ← operate [left,rv] (compareOp op left rv)
  holding [c] (truthy c)):=rfl
theorem zf0 {o o2:Cop}{a b c:E}{x y z:PySem.Expr}{pos:Pos} (hm:behindInMarks (jj o2) z=false) (ha:qb G C d sc Γ a x) (hb:qb G C d sc Γ b y) (hc:qb G C d sc Γ c z) :
  bz G C d sc Γ (.cmp2 a o b o2 c) (.Compare x [jj o,jj o2] [y,z] pos):=by
 intro t st s env loc X st' A hA hsc F R e Q E k
 rw [sh] at e
 obtain ⟨v1,s1,e1,e⟩:=Res.bind_ok e
 obtain ⟨v2,s2,e2,e⟩:=Res.bind_ok e
 obtain ⟨v3,s3,e3,e⟩:=Res.bind_ok e
 obtain ⟨b3,s4,e4,ee⟩:=Res.bind_ok e
 obtain ⟨rfl,rfl⟩:=xa e4
 have mk:markedEach [jj o,jj o2] [y,z] (evalEach [y,z] env)=[eval y env,eval z env]:=by
  show eval y env :: [markedBehindIn (jj o2) z (eval z env)]=_
  rw [markedBehindIn_of_false hm]
 show wpAny G.M A (do testChain pos (← eval x env) [jj o,jj o2] (markedEach [jj o,jj o2] [y,z] (evalEach [y,z] env))) Q E s
 rw [mk]
 refine wpAny_bind (ha t st s env loc _ _ A hA hsc F R e1 _ _ fun u t1 σ1 S1 R1 r1=>?_)
 rw [zvk]
 refine wpAny_bind (wpAny_holding (hb t1 s1 σ1 env loc _ _ A hA hsc (F.step R S1) R1 e2 _ _ fun w t2 σ2 S2 R2 r2=>?_))
 refine wpAny_bind (wpAny_standAt (wpAny_bind (wpAny_holding ?_)))
 refine ye R2 hA (VRel.step S2 (fun _ z=>z.elim) _ r1) r2 e3 _ _ fun q t3 σ3 S3 R3 r3=>?_
 cases r3
 refine wpAny_bind (wpAny_release (wpAny_bind (wpAny_holding (wpAny_truthy_bool ?_))))
 cases b3 with
 | false =>
  simp only [Bool.false_eq_true,if_false] at ee ⊢
  cases ee
  exact wpAny_pure (k _ t3 σ3 ((S1.trans S2).trans S3) R3 rfl)
 | true =>
  simp only [if_true] at ee ⊢
  obtain ⟨v5,s5,e5,e6⟩:=Res.bind_ok ee
  rw [zr4]
  refine wpAny_bind (wpAny_holding (hc t3 _ σ3 env loc _ _ A hA hsc (((F.step R S1).step R1 S2).step R2 S3) R3 e5 _ _ fun w' t4 σ4 S4 R4 r4=>?_))
  refine wpAny_bind (wpAny_standAt (wpAny_bind (wpAny_operating ?_)))
  refine ye R4 hA (VRel.step (S3.trans S4) (fun _ z=>z.elim) _ r2) r4 e6 _ _ fun z t5 σ5 S5 R5 r5=>?_
  cases r5
  exact wpAny_holding (wpAny_truthy_bool (k _ t5 σ5 ((((S1.trans S2).trans S3).trans S4).trans S5) R5 rfl))
theorem zqg {n:Bool}{p:CmpOp}{A:Around}{t:Tie}{s:Shared}{v:V}{u:Value}{Q:Value→Shared→Prop}{E:Value→Shared→Prop} (hp:tt p n=true) (r1:VRel t s.heap v u) (h:Q (.bool (decide (v=.none) != n)) s):wpAny G.M A (compareOp p u .none) Q E s:=by
 have key:(u == Value.none)=decide (v=.none):=by
  cases v with
  | none=>cases r1; (first | exact (decide_eq_true rfl).symm | exact (decide_eq_false nofun).symm)
  | bool=>cases r1; (first | exact (decide_eq_true rfl).symm | exact (decide_eq_false nofun).symm)
  | int=>obtain ⟨_,rfl⟩:=r1; (first | exact (decide_eq_true rfl).symm | exact (decide_eq_false nofun).symm)
  | str=>obtain ⟨_,rfl⟩:=r1; (first | exact (decide_eq_true rfl).symm | exact (decide_eq_false nofun).symm)
  | tup=>obtain ⟨_,_,rfl,_⟩:=r1; (first | exact (decide_eq_true rfl).symm | exact (decide_eq_false nofun).symm)
  | lst=>obtain ⟨_,_,rfl,_⟩:=r1; (first | exact (decide_eq_true rfl).symm | exact (decide_eq_false nofun).symm)
  | ref=>obtain ⟨_,rfl,_⟩:=r1; (first | exact (decide_eq_true rfl).symm | exact (decide_eq_false nofun).symm)
  | exc=>obtain ⟨_,_,rfl,_⟩:=r1; (first | exact (decide_eq_true rfl).symm | exact (decide_eq_false nofun).symm)
 cases p <;> simp only [tt] at hp <;> (try contradiction)
 ·have:n=false:=by simpa using hp
  subst this
  exact is_none (by rw [key]; revert h; cases decide (v=V.none) <;> exact id)
 ·have:n=true:=hp
  subst this
  exact isNot_none (by rw [key]; revert h; cases decide (v=V.none) <;> exact id)
theorem zi2 {n:Bool}{a:E}{x:PySem.Expr}{p:CmpOp}{pos p2:Pos}{j:Nat} (hp:tt p n=true) (ha:qb G C d sc Γ a x):bz G C d sc Γ (.isC n a .none) (.Compare x [p] [.Constant .none j p2] pos):=by
 intro t st s env loc c st' A hA hsc F R e Q E k
 rw [zcj] at e
 obtain ⟨v,s1,e1,e⟩:=Res.bind_ok e
 cases e
 refine f9 rfl (ha t st s env loc _ _ A hA hsc F R e1 _ _ fun u t1 σ1 S1 R1 r1=>?_)
 exact wpAny_Constant_none (zqg hp r1 ⟨_,rfl,k _ t1 σ1 S1 R1 rfl⟩)
end
end Mine
end
section
namespace Mine
open PySem PySem.W PyProof.Rows PySem.SeqAt
section
variable {G:Gd}{N:Names}{C:Calls}{d:Dp}{sc:Sc}{Γ:Gam}{t:Tie}{st st':MS}{s:Shared}{A:Around}{X Y Z:V}{v w:Value}
theorem sx {i:Int}{n j:Nat} (e:idx i n=some j):(0≤i∧i < n∧j=i.toNat)∨(i < 0∧0≤i + n∧j=(i + n).toNat):=by
 have e:(if 0≤i then (if i < n then some i.toNat else Option.none) else (if 0≤i + n then some (i + n).toNat else Option.none))=some j:=e
 by_cases h:0≤i
 ·rw [if_pos h] at e
  by_cases h2:i < n
  ·rw [if_pos h2] at e; cases e; exact .inl ⟨h,h2,rfl⟩
  ·rw [if_neg h2] at e; exact za e
 ·rw [if_neg h] at e
  by_cases h2:0≤i + n
  ·rw [if_pos h2] at e; cases e; exact .inr ⟨Int.lt_of_not_ge h,h2,rfl⟩
  ·rw [if_neg h2] at e; exact za e
theorem mq {i k:Int}{n:Nat} (h:(if i < 0 then i + n else i)=k) (h0:0≤k) (h1:k < n):seqIndex? i n=some k.toNat∧k.toNat < n:=by
 have e:seqIndex? i n=if (decide (0≤(if i < 0 then i + n else i)) && decide ((if i < 0 then i + n else i) < (n:Int)))=true then some (if i < 0 then i + n else i).toNat else none:=rfl
 rw [e,h,decide_eq_true h0,decide_eq_true h1]
 exact ⟨rfl,(Int.toNat_lt h0).2 h1⟩
theorem ya {i:Int}{n j:Nat} (e:idx i n=some j):seqIndex? i n=some j∧j < n:=by
 rcases sx e with ⟨h1,h2,rfl⟩ | ⟨h1,h2,rfl⟩
 ·exact mq (if_neg (Int.not_lt.2 h1)) h1 h2
 ·exact mq (if_pos h1) h2 (by lia)
noncomputable def xb (x:PySem.Expr):Bool:=!Nat.beq x.ctorIdx 26
theorem j6 {slice:PySem.Expr} (h:xb slice=true) (o i:Value):subscripted slice false o i=operate [o,i] (PySem.getItem o i):=by
 cases slice <;> first | rfl | exact qg h
theorem ic {i:Int}{n j:Nat} (h:idx i n=some j) (hn:n≤zf):-(2 ^ 63:Int)≤i∧i < 2 ^ 63:=by
 have hn:n≤16777216:=hn
 have h:-(n:Int)≤i∧i < n:=by rcases sx h with h | h <;> omega
 omega
theorem zpt {i:Int}{n j:Nat} (h:idx i n=some j) (hn:n≤zf):(decide (i < -(2 ^ 63)) || decide (i ≥ 2 ^ 63))=false:=by
 obtain ⟨h1,h2⟩:=ic h hn
 rw [decide_eq_false (Int.not_lt.2 h1),decide_eq_false (Int.not_le.2 h2)]; rfl
theorem zpw {i:Int}{n j:Nat} (h:idx i n=some j) (h0:0≤i):j=i.toNat:=by
 rcases sx h with ⟨_,_,h⟩ | ⟨h,_⟩
 ·exact h
 ·exact absurd h0 (Int.not_le.2 h)
theorem og {b:V} (h:b.isKey=true):∃ x,b=.str x:=by
 cases b with
 | str x=>exact ⟨x,rfl⟩
 | _=>exact qg h
theorem zig {α β:Type}{h:Option MObj}{f:List (V×V)→Res β}{y:β}{s:MS} (e:(match h with | some (.dict l)=>f l | _=>.stuck)=.ok y s):∃ l,h=some (.dict l)∧f l=.ok y s:=by
 cases h with
 | none=>exact zd e
 | some o=>cases o with
  | dict l=>exact ⟨l,rfl,e⟩
  | _=>exact zd e
theorem zne {X Y Z:V}{st st':MS} (e:(match X with
  | .ref r=>match st.heap r with
   | some (.dict l)=>if Y.isKey then okV st (jp Y l) else .stuck
   | _=>.stuck
  | _=>.stuck)=.ok Z st'):∃ x r l,Y=.str x∧X=.ref r∧st.heap r=some (.dict l)∧jp (.str x) l=some Z∧st'=st:=by
 cases X with
 | ref r =>
  obtain ⟨l,h1,h2⟩:=zig (α:=V) e
  by_cases hk:Y.isKey=true
  ·rw [if_pos hk] at h2
   obtain ⟨x,rfl⟩:=og hk
   obtain ⟨h3,h4⟩:=lg h2
   exact ⟨x,r,l,rfl,rfl,h1,h3,h4⟩
  ·rw [if_neg hk] at h2; exact zd h2
 | _=>exact zd e
theorem zpk {X Z:V}{i:Int}{st st':MS} (e:(match zv st X with
  | some (_,l)=>okV st ((idx i l.length).bind fun j=>l[j]?)
  | Option.none=>.stuck)=.ok Z st'):∃ k l j,zv st X=some (k,l)∧idx i l.length=some j∧l[j]?=some Z∧st'=st:=by
 cases h:zv st X with
 | none=>rw [h] at e; exact zd e
 | some p =>
  rw [h] at e
  obtain ⟨h1,h2⟩:=lg e
  obtain ⟨j,h3,h4⟩:=Option.bind_eq_some_iff.mp h1
  exact ⟨p.1,p.2,j,rfl,h3,h4,h2⟩
theorem zk2 {x:List Nat}{i:Int}{Z:V}{st st':MS} (e:getItem (.str x) (.int i) st=.ok Z st'):x.length≤zf∧∃ j c,idx i x.length=some j∧x[j]?=some c∧Z=.str [c]∧st'=st:=by
 have e:(if x.length≤zf then okV st ((idx i x.length).bind fun j=>(x[j]?).map fun c=>.str [c]) else .stuck)=.ok Z st':=e
 by_cases hz:x.length≤zf
 ·rw [if_pos hz] at e
  obtain ⟨ez,h⟩:=lg e
  obtain ⟨j,h1,h2⟩:=Option.bind_eq_some_iff.mp ez
  obtain ⟨c,h3,h4⟩:=Option.map_eq_some_iff.mp h2
  exact ⟨hz,j,c,h1,h3,h4.symm,h⟩
 ·rw [if_neg hz] at e; exact zd e
theorem zlb {value slice:PySem.Expr}{x:List Nat}{i:Int}{kx ki:Tok} (hs:xb slice=true) (R:Rel G t st s) (e:getItem (.str x) (.int i) st=.ok Z st'):Sim G A t s (subscriptTail value slice (.str (qh x) kx) (.int i ki)) st' (q7 Z):=by
 obtain ⟨hz,j,c,h1,h3,rfl,rfl⟩:=zk2 e
 intro Q E q
 refine tail_any (typeIs_str s _ kx) PySem.F.slot_str_getitem.lookup (PyProof.Rows.getItem_str (c:=c) (zpt h1 hz) ?_ (q _ t _ (Step.toks _ t s _) (R.toks _) ⟨_,rfl⟩)) (j6 hs _ _)
 rw [show (qh x).length=x.length from rfl,(ya h1).1,Option.bind_some]
 exact List.getElem?_toArray.trans h3
theorem zgs {value slice:PySem.Expr}{l:List V}{i:Int}{ki:Tok}{a:Addr}{vs:Array Value}{j:Nat} (hs:xb slice=true) (R:Rel G t st s) (ia:PL s.heap a vs) (ra:VRels t s.heap l vs.toList) (sz:l.length≤zf) (h1:idx i l.length=some j) (h2:l[j]?=some Z) :
  Sim G A t s (subscriptTail value slice (.ref a) (.int i ki)) st (q7 Z):=by
 obtain ⟨y,h6,h7⟩:=ra.get h2
 have hbd:=ic h1 sz
 intro Q E q
 refine tail_any ia.isList.typeIs slot_list_getitem.lookup ?_ (j6 hs _ _)
 by_cases h0:0≤i
 ·cases zpw h1 h0
  exact wpAny_getItem_list ia.isList h0 hbd.2 (Array.getElem?_toList.symm.trans h6) (q _ t s (.refl _ _ _) R h7)
 ·rw [show vs=vs.toList.toArray from Array.toArray_toList.symm] at ia
  exact kde_getNeg ia.isList (Int.lt_of_not_ge h0) hbd.1 (by rw [ra.length]; exact (ya h1).1) h6 (q _ t s (.refl _ _ _) R h7)
theorem zh8 {value slice:PySem.Expr}{l:List V}{i:Int}{ki:Tok}{a:Addr}{vs:Array Value}{j:Nat} (hs:xb slice=true) (R:Rel G t st s) (ia:PT s.heap a vs) (ra:VRels t s.heap l vs.toList) (sz:l.length≤zf) (h1:idx i l.length=some j) (h2:l[j]?=some Z) :
  Sim G A t s (subscriptTail value slice (.ref a) (.int i ki)) st (q7 Z):=by
 obtain ⟨y,h6,h7⟩:=ra.get h2
 have hbd:=ic h1 sz
 obtain ⟨n,ha⟩:=ia
 intro Q E q
 exact tail_any ⟨_,ha,rfl⟩ PySem.F.slot_tuple_getitem.lookup (P.getItem_tuple ha (Int.le_trans (by decide) hbd.1) hbd.2 (by rw [show vs.size=_ from ra.length]; exact (ya h1).1) (Array.getElem?_toList.symm.trans h6) (q _ t s (.refl _ _ _) R h7)) (j6 hs _ _)
theorem zk1 {value slice:PySem.Expr}{x:List Nat}{k:Tok}{r:Lbl}{dd:List (V×V)} (hs:xb slice=true) (R:Rel G t st s) (hX:VRel t s.heap (.ref r) v) (hd:st.heap r=some (.dict dd)) (ez:jp (.str x) dd=some Z) :
  Sim G A t s (subscriptTail value slice v (.str (qh x) k)) st (q7 Z):=by
 obtain ⟨a,kvs,h1,h2,h3⟩:=R.objs r _ hd
 obtain ⟨a',rfl,e2⟩:=hX
 cases h1.symm.trans e2
 have f:=DRel.find (x:=x) h3
 rw [ez] at f
 obtain ⟨y,f1,f2⟩:=f
 intro Q E q
 exact tail_any h2.mapOf.typeIs slot_dict_getitem.lookup (wpAny_getItem_of (strKind_is G.prog G.w (qh x) k) h2.mapOf f1 (q _ t _ (Step.toks _ t s _) (R.toks _) f2)) (j6 hs _ _)
theorem zi9 {value slice:PySem.Expr}{i:Int}{ki:Tok} (hs:xb slice=true) (R:Rel G t st s) (hX:VRel t s.heap X v) (e:(match zv st X with
  | some (_,l)=>okV st ((idx i l.length).bind fun j=>l[j]?)
  | Option.none=>.stuck)=.ok Z st'):Sim G A t s (subscriptTail value slice v (.int i ki)) st' (q7 Z):=by
 obtain ⟨kk,l,j,hl,h1,h2,rfl⟩:=zpk e
 obtain ⟨a,vs,rfl,ia,ra,sz⟩:=qo R hX hl
 cases kk with
 | true=>exact zgs hs R ia ra sz h1 h2
 | false=>exact zh8 hs R ia ra sz h1 h2
theorem zb8 {value slice:PySem.Expr} (hs:xb slice=true) (R:Rel G t st s) (hX:VRel t s.heap X v) (hY:VRel t s.heap Y w) (e:(match X with
  | .ref r=>match st.heap r with
   | some (.dict l)=>if Y.isKey then okV st (jp Y l) else .stuck
   | _=>.stuck
  | _=>.stuck)=.ok Z st'):Sim G A t s (subscriptTail value slice v w) st' (q7 Z):=by
 obtain ⟨x,r,l,rfl,rfl,h1,h2,rfl⟩:=zne e
 obtain ⟨k,rfl⟩:=hY
 exact zk1 hs R hX h1 h2
theorem n5 {value slice:PySem.Expr} (hs:xb slice=true) (R:Rel G t st s) (hA:AOk d A) (hX:VRel t s.heap X v) (hY:VRel t s.heap Y w) (e:getItem X Y st=.ok Z st'):Sim G A t s (subscriptTail value slice v w) st' (q7 Z):=by
 cases Y with
 | int i =>
  obtain ⟨k,rfl⟩:=hY
  cases X with
  | str x=>obtain ⟨k1,rfl⟩:=hX; exact zlb hs R e
  | _=>exact zi9 hs R hX e
 | _=>exact zb8 hs R hX hY e
theorem zl3 {a b:E}{x y:PySem.Expr}{pos:Pos} (hs:xb y=true) (ha:qb G C d sc Γ a x) (hb:qb G C d sc Γ b y):qb G C d sc Γ (.sub a b) (.Subscript x y pos):=by
 intro t st s env loc X st' A hA hsc F R e Q E k
 rw [zjj] at e
 obtain ⟨v1,s1,e1,e⟩:=Res.bind_ok e
 obtain ⟨v2,s2,e2,e⟩:=Res.bind_ok e
 refine Subscript_ (ha t st s env loc _ _ A hA hsc F R e1 _ _ fun u t1 σ1 S1 R1 r1=>?_)
 refine hb t1 s1 σ1 env loc _ _ A hA hsc (F.step R S1) R1 e2 _ _ fun w t2 σ2 S2 R2 r2=>?_
 exact n5 hs R2 hA (VRel.step S2 (fun _ z=>z.elim) _ r1) r2 e _ _ fun z t3 σ3 S3 R3 r3=>k z t3 σ3 ((S1.trans S2).trans S3) R3 r3
noncomputable def k4 (x:PySem.Expr):Bool:=!Nat.beq x.ctorIdx 16
theorem bw {x:PySem.Expr} (h:k4 x=true) (n:PySem.Str) (env:Env):attributeBase x n env (eval x env)=eval x env:=by
 cases x with
 | Call f l k p=>exact qg h
 | _=>rfl
set_option genCtorIdx false in
structure ClsOk (G:Gd) (Ca:Addr):Prop where
 ga:findIn G.K (.ref Ca) "__getattribute__"=some (some (.builtin "object.__getattribute__"))
 gt:findIn G.K (.ref Ca) "__getattr__"=some none
 sa:findIn G.K (.ref Ca) "__setattr__"=some (some (.builtin "object.__setattr__"))
 at_:∀ i,i < 13→findIn G.K (.ref Ca) (G.an i)=some none
 cd:∃ cd,clsIn G.K Ca=some cd∧cd.hasDict=true
 po:plainOver G.K Ca=true
theorem zfi {h:Heap}{a:Addr}{m:PySem.Str→Option Value} (hn:h.Ns a m) (x:PySem.Str):∃ o,h.get? a=some o∧lookIn x o=some (m x):=by
 obtain ⟨o,es,ep,ho,hd,hk,hf⟩:=hn
 refine ⟨o,ho,?_⟩
 unfold lookIn
 rw [hd]
 dsimp only
 have:=hf x
 unfold nsFind findBy at this
 rw [← Array.find?_toList] at this
 cases q:es.toList.find? (fun e=>e.key.isStr x) with
 | some e=>rw [q] at this; simp only [Option.map_some] at this; rw [← this]
 | none =>
  rw [q] at this
  simp only [Option.map_none] at this
  have nr:es.toList.any (·.refKey)=false:=by
   refine List.any_eq_false.mpr fun e he=>?_
   obtain ⟨n,tk,hk'⟩:=hk e (Array.mem_toList_iff.mp he)
   simp [DictEntry.refKey,hk']
  dsimp only
  rw [nr,if_neg (by decide),← this]
theorem sw {G:Gd}{t:Tie}{st:MS}{s:Shared} (R:Rel G t st s) {l:Lbl}{c:Nat}{as:List (Nat×V)} (h:st.heap l=some (.inst c as)) :
  ∃ a dd Ca m od,t.ρ l=some a∧t.δ l=some dd∧G.ca c=some Ca∧InstAt s.heap a (instObj Ca dd) Ca (some od)∧s.heap.get? dd=some od∧(∀ x,lookIn x od=some (m x))∧NsZ s.heap dd m as.length∧zi4 G t s.heap as m:=by
 obtain ⟨a,dd,Ca,m,h1,h2,h3,h4,h5,h6⟩:=R.objs l _ h
 have h7:∃ od,s.heap.get? dd=some od:=let ⟨o,_,_,ho,_⟩:=h5; ⟨o,ho⟩
 obtain ⟨od,ho⟩:=h7
 refine ⟨a,dd,Ca,m,od,h1,h2,h3,⟨h4,rfl,rfl,ho⟩,ho,fun x=>?_,h5,h6⟩
 obtain ⟨o',e1,e2⟩:=zfi h5.ns x
 rw [ho] at e1; cases e1; exact e2
theorem zay {β:Type}{h:Option MObj}{f:Nat→List (Nat×V)→Res β}{y:β}{s:MS} (e:(match h with | some (.inst c as)=>f c as | _=>.stuck)=.ok y s):∃ c as,h=some (.inst c as)∧f c as=.ok y s:=by
 cases h with
 | none=>exact zd e
 | some o=>cases o with
  | inst c as=>exact ⟨c,as,rfl,e⟩
  | _=>exact zd e
theorem zbs {X Z:V}{i:Nat}{st st':MS} (e:getAttr X i st=.ok Z st'):∃ r c as,X=.ref r∧st.heap r=some (.inst c as)∧vt i as=some Z∧st'=st:=by
 obtain ⟨r,rfl,e⟩:=zek e
 obtain ⟨c,as,h,e⟩:=zay e
 obtain ⟨h1,h2⟩:=lg e
 exact ⟨r,c,as,rfl,h,h1,h2⟩
theorem zfo {y:Value} (h:∀ n,y≠.builtin n):handedIn y=true:=by
 cases y with
 | builtin n=>exact absurd rfl (h n)
 | _=>rfl
theorem zqk {cd:ClassData}{od:Obj}{x:PySem.Str}{o:Option Value} (c2:cd.hasDict=true) (h:lookIn x od=some o):W.ownOf cd (some od) x=some o:=by
 delta W.ownOf; rw [c2,if_pos rfl]; exact h
theorem zak {K:Frag}{Ca:Addr}{cd:ClassData}{od:Obj}{x:PySem.Str}{y:Value} (c1:clsIn K Ca=some cd) (c2:cd.hasDict=true) (hf:findIn K (.ref Ca) x=some none) (h:lookIn x od=some (some y)):findObj K Ca (some od) x=some (.value y):=by
 delta findObj
 rw [c1,hf]
 show (W.ownOf cd (some od) x).bind _=_
 rw [zqk c2 h]; rfl
theorem n4 (O:G.Ok N) (hcl:∀ c Ca,G.ca c=some Ca→ClsOk G Ca) {i:Nat}{b:Bool} (hi:i < 13) (R:Rel G t st s) (hX:VRel t s.heap X v) (e:getAttr X i st=.ok Z st'):Sim G A t s (PySem.getAttr v (G.an i) b) st' (q7 Z):=by
 obtain ⟨r,c,as,rfl,has,q,rfl⟩:=zbs e
 obtain ⟨a,dd,Ca,m,od,h1,h2,h3,I,h5,h6,h7,h8⟩:=sw R has
 obtain ⟨a',rfl,e2⟩:=hX
 cases h1.symm.trans e2
 obtain ⟨y,y1,y2⟩:=h8.1 i Z q
 have K:=hcl c Ca h3
 obtain ⟨cd,c1,c2⟩:=K.cd
 intro Q E k
 exact get_value (O.K.keeps R.base) I K.ga (zak c1 c2 (K.at_ i hi) ((h6 _).trans (congrArg some y1))) (zfo y2.notB) (k _ t _ (Step.toks _ t s _) (R.toks _) y2)
theorem zi8 (O:G.Ok N) (hcl:∀ c Ca,G.ca c=some Ca→ClsOk G Ca) {i:Nat}{a:E}{x:PySem.Expr}{pos:Pos} (hi:i < 13) (hx:k4 x=true) (ha:qb G C d sc Γ a x):qb G C d sc Γ (.attr a i) (.Attribute x (G.an i) pos):=by
 intro t st s env loc X st' A hA hsc F R e Q E k
 rw [zd0] at e
 obtain ⟨v1,s1,e1,e⟩:=Res.bind_ok e
 refine Attribute_any_ (ha t st s env loc _ _ A hA hsc F R e1 _ _ fun u t1 σ1 S1 R1 r1=>?_) ?_
 ·exact n4 O hcl hi R1 r1 e _ _ fun z t3 σ3 S3 R3 r3=>k z t3 σ3 (S1.trans S3) R3 r3
 ·show (attributeBase x (G.an i) env (eval x env) >>= _)=_
  rw [bw hx]
theorem dz {i:Nat}{w:V}{r:List (Nat×V)}:vt i ((i,w) :: r)=some w:=if_pos rfl
theorem u9 {i k:Nat}{w:V}{r:List (Nat×V)} (h:¬ k=i):vt i ((k,w) :: r)=vt i r:=if_neg h
theorem zl0 {i:Nat}{v w:V}{r:List (Nat×V)}:p5 i v ((i,w) :: r)=(i,v) :: r:=if_pos rfl
theorem zea {i k:Nat}{v w:V}{r:List (Nat×V)} (h:¬ k=i):p5 i v ((k,w) :: r)=(k,w) :: p5 i v r:=if_neg h
theorem ue (i j:Nat) (v:V):∀ as:List (Nat×V),vt j (p5 i v as)=if j=i then some v else vt j as
 | []=>by
  by_cases q:i=j
  ·subst q; rw [if_pos rfl]; exact dz
  ·rw [if_neg (fun z=>q z.symm)]; exact u9 q
 | (k,w) :: r=>by
  by_cases q:k=i
  ·subst q
   rw [zl0]
   by_cases z:k=j
   ·subst z; rw [if_pos rfl]; exact dz
   ·rw [if_neg (fun y=>z y.symm),u9 z,u9 z]
  ·rw [zea q]
   by_cases z:k=j
   ·subst z; rw [if_neg q,dz,dz]
   ·rw [u9 z,u9 z,ue i j v r]
theorem uq (i:Nat) (v:V):∀ as:List (Nat×V),(p5 i v as).length=if (vt i as).isSome=true then as.length else as.length + 1
 | []=>rfl
 | (k,w) :: r=>by
  by_cases q:k=i
  ·subst q; rw [zl0,dz]; rfl
  ·rw [zea q,u9 q,List.length_cons,uq i v r,List.length_cons]
   cases (vt i r).isSome <;> rfl
theorem zcp {i:Nat}{v:V}{as:List (Nat×V)} (h:as.length < 1000):(p5 i v as).length≤1000:=by
 rw [uq]
 cases (vt i as).isSome with
 | true=>exact Nat.le_of_lt h
 | false=>exact h
theorem zlp (O:G.Ok N) {h:Heap}{i:Nat}{as:List (Nat×V)}{m:PySem.Str→Option Value} (h8:zi4 G t h as m):(if (m (G.an i)).isSome=true then as.length else as.length + 1)=(p5 i Y as).length:=by
 rw [uq]
 cases q:vt i as with
 | some z=>obtain ⟨y,y1,_⟩:=h8.1 i z q; rw [y1]; rfl
 | none =>
  cases q2:m (G.an i) with
  | none=>rfl
  | some y=>obtain ⟨j,z,z1,z2⟩:=h8.2 _ _ q2; rw [← O.an _ _ z1,q] at z2; exact za z2
theorem zlz (O:G.Ok N) {t':Tie}{h h':Heap}{i:Nat}{as:List (Nat×V)}{m:PySem.Str→Option Value} (h8:zi4 G t h as m) (hY:VRel t' h' Y w) (hs:∀ z y,VRel t h z y→VRel t' h' z y):zi4 G t' h' (p5 i Y as) (fun x=>if x=G.an i then some w else m x):=by
 refine ⟨fun j z hz=>?_,fun x y hx=>?_⟩
 ·rw [ue] at hz
  by_cases q:j=i
  ·subst q
   rw [if_pos rfl] at hz; cases hz
   exact ⟨w,if_pos rfl,hY⟩
  ·rw [if_neg q] at hz
   obtain ⟨y,y1,y2⟩:=h8.1 j z hz
   exact ⟨y,(if_neg fun z=>q (O.an _ _ z)).trans y1,hs _ _ y2⟩
 ·by_cases q:x=G.an i
  ·subst q; exact ⟨i,Y,rfl,by rw [ue,if_pos rfl]⟩
  ·obtain ⟨j,z,rfl,z2⟩:=h8.2 x y ((if_neg q).symm.trans hx)
   exact ⟨j,z,rfl,by rw [ue,if_neg fun (z:j=i)=>q (by rw [z])]; exact z2⟩
theorem za0 {X:V}{i:Nat}{u:Unit}{st st':MS} (e:setAttr X i Y st=.ok u st'):∃ r c as,X=.ref r∧st.heap r=some (.inst c as)∧as.length < 1000∧st'=st.put r (.inst c (p5 i Y as)):=by
 obtain ⟨r,rfl,e⟩:=zek e
 obtain ⟨c,as,h,e⟩:=zay e
 by_cases q:as.length < 1000
 ·rw [if_pos q] at e; cases e; exact ⟨r,c,as,rfl,h,q,rfl⟩
 ·rw [if_neg q] at e; exact zd e
theorem zja {K:Frag}{Ca:Addr}{x:PySem.Str} (h:findIn K (.ref Ca) x=some none):takerIn K Ca x=some none:=by
 delta takerIn; rw [h]; rfl
theorem zi0 {h:Heap}{a:Addr}{m:PySem.Str→Option Value}{n:Nat} (hn:NsZ h a m n):(h.get? a).isSome=true:=by
 obtain ⟨o,_,_,ho,_⟩:=hn; rw [ho]; rfl
theorem zmg {n:Nat} (h:n≤1000):n≤sizeLine + 1:=Nat.le_trans h (by rw [sizeLine_eq]; decide)
theorem zj4 {h:Heap}{a:Addr}{m:PySem.Str→Option Value}{n:Nat}{M:Model}{A:Around}{Q:Unit→Shared→Prop}{E:Value→Shared→Prop}{s:Shared} (hn:NsZ s.heap a m n) (hz:n≤1000) (q:Q () s):wpAny M A (lookBehind a) Q E s:=by
 obtain ⟨on,esn,epn,hon,hdn,_,_,hzn⟩:=hn
 exact wpAny_lookBehind hon (by rw [hdn]; exact pastItsLine_dict (zmg (Nat.le_trans hzn hz))) q
theorem n7 (O:G.Ok N) (hcl:∀ c Ca,G.ca c=some Ca→ClsOk G Ca) {i:Nat}{u:Unit} (hi:i < 13) (R:Rel G t st s) (hX:VRel t s.heap X v) (hY:VRel t s.heap Y w) (e:setAttr X i Y st=.ok u st'):Sim G A t s (PySem.setAttr v (G.an i) w) st' (fun _ _ _=>True):=by
 obtain ⟨r,c,as,rfl,has,hlen,rfl⟩:=za0 e
 obtain ⟨a,dd,Ca,m,od,h1,h2,h3,I,h5,h6,h7,h8⟩:=sw R has
 obtain ⟨a',rfl,e2⟩:=hX
 cases h1.symm.trans e2
 have K:=hcl c Ca h3
 obtain ⟨cd,c1,c2⟩:=K.cd
 have XK:=O.K.keeps R.base
 intro Q E k
 refine set_plain XK I K.sa ?_
 refine osa_open (s:={ s with toks:=s.toks + 1 }) XK (od:=some od) ⟨I.at_,I.cls,I.no,I.dict⟩ K.po (r:=none) (zja (K.at_ i hi)) fun b=>?_
 refine wpAny_bind (wpAny_pure (wpAny_bind (wpAny_bind (wpAny_loadPart (s:={ s with toks:=s.toks + 1 }) I.at_ (wpAny_bind (Looks.here (s:={ s with toks:=s.toks + 1 }) (looks_clsIn XK c1) ?_))))))
 rw [c2]
 refine wpAny_pure (a:=some dd) (wpAny_bind (wpAny_pure (wpAny_bind (af (s:={ s with toks:=s.toks + 1 }) h7 fun h' hn hs=>?_))))
 rw [zlp O (Y:=Y) h8] at hn
 have hl:=zi0 hn
 have S:=Step.upd (t:=t) (s:=s) (tk:=s.toks + 1 + 1) ⟨r,.inr h2⟩ hl hs
 refine wpAny_bind (zj4 (h:=h') hn (zcp hlen) ?_)
 exact wpAny_pure (k () t.tick _ S (R.upd (l:=r) (.inr h2) hl hs (by rw [has]; exact fun q=>za q.symm) ⟨a,dd,Ca,_,h1,h2,h3,(hs.2 a fun q=>R.two r r a h1 (q ▸ h2)).trans I.at_,hn,zlz O h8 (VRel.step S (fun _ z=>z.elim) _ hY) (fun z y=>VRel.step S (fun _ z=>z.elim) _)⟩) trivial)
end
end Mine
end
section
namespace Mine
open PySem PySem.W PyProof.Rows
section
variable {G:Gd}{N:Names}{C:Calls}{d:Dp}{sc:Sc}{Γ:Gam}{A:Around}{t:Tie}{st st':MS}{s:Shared}{env:Env}{loc:Loc}
noncomputable def qk (m:List PySem.Expr):Bool:=m.all fun x=>!isStarred x
theorem vc {x:PySem.Expr} (hx:isStarred x=false) (m:List PySem.Expr) (env:Env):starEach (x :: m) env=(false,eval x env) :: starEach m env:=by cases x <;> first | rfl | exact zej hx
theorem yk (pos:Pos) (env:Env):∀ {m:List PySem.Expr},qk m=true→(backTo pos (starEach m env)).any (·.1)=false
 | [],_=>rfl
 | x :: m,h=>by
  simp only [qk,List.all_cons,Bool.and_eq_true,Bool.not_eq_true'] at h
  rw [vc h.1]
  exact yk pos env (m:=m) h.2
theorem zhr (pos:Pos) (env:Env) {m:List PySem.Expr} (h:qk m=true):(backTo pos (starEach m env)).all (fun x=>!x.1)=true:=by
 have:=yk pos env h
 rw [List.any_eq_false] at this
 rw [List.all_eq_true]
 intro x hx
 simpa using this x hx
theorem zns {f:Value}{pos:Pos}{l:List E}{m:List PySem.Expr}{Vs:List V}{Q:Args→Shared→Prop}{E':Value→Shared→Prop} (hm:qk m=true) (hlm:l.length=m.length) (hl:v7 G C d sc Γ l m) (hA:AOk d A) (hsc:env.scope.names=sc)
  (F:FrOk G A t env Γ loc s) (R:Rel G t st s) (e:evL G.P C l loc st=.ok Vs st') (h:∀ vs t' s',Step noX t t' s s'→Rel G t' st' s'→VRels t' s'.heap Vs vs→Q ⟨vs,[]⟩ s') :
  wpAny G.M A (evalArgs f true (backTo pos (starEach m env)) []) Q E' s:=by
 cases m with
 | nil =>
  cases l with
  | nil=>cases e; exact evalArgs_nil3 (h [] t s (.refl _ _ _) R rfl)
  | cons a l=>cases hlm
 | cons x m =>
  simp only [qk,List.all_cons,Bool.and_eq_true,Bool.not_eq_true'] at hm
  have q:=hl pos t st s env loc Vs st' A hA hsc F R e (fun vs s'=>Q ⟨vs,[]⟩ s') E' h
  rw [vc hm.1] at q ⊢
  exact Calls.evalArgs_plain q
noncomputable def zbc (G:Gd) (f:Value):Prop:=∀ h,G.K.In h→∃ k,(k=Keeper.frame∨k=Keeper.machine∨k=Keeper.boundFrame)∧Looks G.M h (keeperOf f) k
theorem gy (id:String):zbc G (.builtin id):=fun _ _=>⟨.machine,.inr (.inl rfl),Looks.of_pure rfl⟩
theorem rz (id:String):zbc G (.type id):=fun _ _=>⟨.machine,.inr (.inl rfl),Looks.of_pure rfl⟩
theorem av {a:Addr} (h:keepIn G.K (.ref a)=true):zbc G (.ref a):=fun _ X=>keeps_K h _ X
theorem v9 {f:Value}{first:List Value}{pos:Pos}{l:List E}{m:List PySem.Expr}{Vs:List V}{Q:Value→Shared→Prop}{E':Value→Shared→Prop} (O:G.Ok N) (hk:zbc G f) (hm:qk m=true) (hlm:l.length=m.length) (hl:v7 G C d sc Γ l m) (hA:AOk d A) (hsc:env.scope.names=sc)
  (F:FrOk G A t env Γ loc s) (R:Rel G t st s) (e:evL G.P C l loc st=.ok Vs st') (h:∀ vs t' s',Step noX t t' s s'→Rel G t' st' s'→VRels t' s'.heap Vs vs→wpAny G.M A (call f (first ++ vs)) Q E' s') :
  wpAny G.M A (callWith pos f first (backTo pos (starEach m env)) []) Q E' s :=
 callWith_of (by rw [yk pos env hm]; rfl) hk (zns hm hlm hl hA hsc F R e fun vs t' s' S R' r=>⟨O.K.keeps R'.base,h vs t' s' S R' r⟩)
set_option genCtorIdx false in
structure FnOk (G:Gd) (N:Names) (f:Nat) (a:Addr):Prop where
 keep:keepIn G.K (.ref a)=true
 name:N.fn f=Str.empty∨G.mg (N.fn f)=some (.ref a)
theorem zd1 {f:Nat}{a:Addr}{Vs:List V}{vs:List Value}{X:V} (O:pw G C d f) (hA:AC d A) (hf:G.fa f=some a) (K:Stk A t s.heap) (R:Rel G t st s) (r:VRels t s.heap Vs vs) (e:C f Vs st=.ok X st'):Sim G A t s (call (.ref a) vs) st' (q7 X):=by
 obtain ⟨a',h1,h2⟩:=O Vs st X st' e A hA
 rw [hf] at h1; cases h1
 exact fun Q E' k=>wpAny_call (h2 t s vs K R r _ fun v t' s' S R' q=>k v t' s' S R' q)
theorem zkb (O:G.Ok N) {f:Nat} (CO:pw G C d f) (hfn:∀ f a,G.fa f=some a→FnOk G N f a) {l:List E}{m:List PySem.Expr}{np pos:Pos} (hne:N.fn f≠Str.empty) (hg:k8 sc (N.fn f)=true) (hm:qk m=true) (hlm:l.length=m.length) (hl:v7 G C d sc Γ l m) :
  qb G C d sc Γ (.call f l) (.Call (.Name (N.fn f) np) m [] pos):=by
 intro t st s env loc X st' A hA hsc F R e Q E k
 rw [sg] at e
 obtain ⟨Vs,s1,e1,e⟩:=Res.bind_ok e
 obtain ⟨a,h1,_⟩:=CO Vs s1 X st' e A hA.ac
 have fo:=hfn f a h1
 refine wpAny_Call_ofName (ba O F R hsc hg (fo.name.resolve_left hne) ?_)
 refine v9 O (av fo.keep) hm hlm hl hA hsc F R e1 fun vs t1 σ1 S1 R1 r1=>?_
 exact zd1 CO hA.ac h1 (F.step R S1).sk R1 r1 e _ _ fun v t2 σ2 S2 R2 r2=>k v t2 σ2 (S1.trans S2) R2 r2
set_option genCtorIdx false in
structure MethOk (G:Gd) (Ca:Addr) (x:PySem.Str) (a:Addr):Prop where
 find:findIn G.K (.ref Ca) x=some (some (.ref a))
 typ:typeIn G.K (.ref a)=some (.type "function")
 keep:keepIn G.K (.ref a)=true
 notA:∀ i,x≠G.an i
theorem oa {m:List PySem.Expr}{pos:Pos}{env:Env} (hm:qk m=true) (h30:m.length < 30):methodCallForm (m.length + ([]:List Keyword).length) (backTo pos (starEach m env)) (backToKw pos (keywordEach [] env))=true:=by
 unfold methodCallForm
 rw [zhr pos env hm]
 show (true && true && decide (m.length + 0 + 0 < 30))=true
 simpa using h30
theorem zod (O:G.Ok N) (hcl:∀ c Ca,G.ca c=some Ca→ClsOk G Ca)
  (hme:∀ c k f Ca,G.P.meths c k=some f→G.ca c=some Ca→∃ a,G.fa f=some a∧MethOk G Ca (N.meth k) a)
  {k:Nat}{a:E}{x:PySem.Expr}{l:List E}{m:List PySem.Expr}{ap pos:Pos} (hx:k4 x=true) (hln:(ap.endLine == pos.line)=true) (h30:m.length < 30) (hm:qk m=true) (hlm:l.length=m.length)
  (ha:qb G C d sc Γ a x) (hl:v7 G C d sc Γ l m) (hA:AOk d A) (hsc:env.scope.names=sc) (F:FrOk G A t env Γ loc s) (R:Rel G t st s) {U:V}{s1 s2:MS}{f:Nat}{Vs:List V} (e1:ev G.P C a loc st=.ok U s1) (hmo:yx G.P U k s1=some f) (e2:evL G.P C l loc s1=.ok Vs s2)
  {Q E:Value→Shared→Prop} (q:∀ fa v vs t2 σ2,G.fa f=some fa→Step noX t t2 s σ2→Rel G t2 s2 σ2→VRels t2 σ2.heap (U :: Vs) (v :: vs)→wpAny G.M A (call (.ref fa) (v :: vs)) Q E σ2) :
  wpAny G.M A (eval (.Call (.Attribute x (N.meth k) ap) m [] pos) env) Q E s:=by
 rw [arm_eval_Call,bw hx]
 refine wpAny_bind (ha t st s env loc _ _ A hA hsc F R e1 _ _ fun v t1 σ1 S1 R1 r1=>wpAny_bind (wpAny_standAt ?_))
 cases U with
 | ref r =>
  simp only [yx] at hmo
  split at hmo
  ·rename_i c as hr2
   obtain ⟨a,dd,Ca,mm,od,h1,h2,h3,I,h5,h6,h7,h8⟩:=sw R1 hr2
   obtain ⟨a',rfl,e4⟩:=id r1
   rw [h1] at e4; cases e4
   obtain ⟨fa,f1,mo⟩:=hme c k f Ca hmo h3
   have KC:=hcl c Ca h3
   have hpos:methodCallPos true x env ap pos=pure pos:=by unfold methodCallPos; rw [hln]; rfl
   unfold methodCall
   rw [oa hm h30]
   refine wpAny_bind (wpAny_holding ?_)
   show wpAny _ _ (getMethod (.ref a) (N.meth k) _) _ _ _
   refine method_fn (O.K.keeps R1.base) I KC.ga KC.gt mo.find mo.typ ?_ ?_
   ·show (lookIn (N.meth k) od).map (·.isSome)=some false
    rw [h6]
    cases qq:mm (N.meth k) with
    | none=>rfl
    | some y=>obtain ⟨i,_,z,_⟩:=h8.2 _ _ qq; exact absurd z (mo.notA i)
   ·refine wpAny_bind (wpAny_of_eq hpos ?_)
    refine v9 O (av mo.keep) hm hlm hl hA hsc (F.step R S1) R1 e2 fun vs t2 σ2 S2 R2 r2=>?_
    exact q fa (.ref a) vs t2 σ2 f1 (S1.trans S2) R2 ⟨_,_,rfl,VRel.step S2 (fun _ z=>z.elim) (.ref r) r1,r2⟩
  ·exact za hmo
 | _=>exact za hmo
theorem zln (O:G.Ok N) (CO:lf G C d) (hcl:∀ c Ca,G.ca c=some Ca→ClsOk G Ca)
  (hme:∀ c k f Ca,G.P.meths c k=some f→G.ca c=some Ca→∃ a,G.fa f=some a∧MethOk G Ca (N.meth k) a)
  {k:Nat}{a:E}{x:PySem.Expr}{l:List E}{m:List PySem.Expr}{ap pos:Pos} (hx:k4 x=true) (hln:(ap.endLine == pos.line)=true) (h30:m.length < 30) (hm:qk m=true) (hlm:l.length=m.length)
  (ha:qb G C d sc Γ a x) (hl:v7 G C d sc Γ l m):qb G C d sc Γ (.meth a k l) (.Call (.Attribute x (N.meth k) ap) m [] pos):=by
 intro t st s env loc X st' A hA hsc F R e Q E q
 rw [ig] at e
 obtain ⟨V,s1,e1,e⟩:=Res.bind_ok e
 cases hmo:yx G.P V k s1 with
 | none=>rw [hmo] at e; exact zd e
 | some f =>
  rw [hmo] at e
  obtain ⟨Vs,s2,e2,e⟩:=Res.bind_ok e
  exact zod O hcl hme hx hln h30 hm hlm ha hl hA hsc F R e1 hmo e2 fun fa v vs t2 σ2 f1 S2 R2 r2=>zd1 (Vs:=V :: Vs) (CO f) hA.ac f1 (F.step R S2).sk R2 r2 e _ _ fun v t3 σ3 S3 R3 r3=>q v t3 σ3 (S2.trans S3) R3 r3
set_option genCtorIdx false in
structure NewOk (G:Gd) (N:Names) (c:Nat) (Ca fi:Addr):Prop where
 keep:keepIn G.K (.ref Ca)=true
 name:G.mg (N.cls c)=some (.ref Ca)
 makes:makesIn G.K Ca=true
 init:findIn G.K (.ref Ca) "__init__"=some (some (.ref fi))
 fn:typeIn G.K (.ref fi)=some (.type "function")
theorem ud (h:Heap):h.get? (h.objs.size + 1)=none:=by
 cases e:h.get? (h.objs.size + 1) with
 | none=>rfl
 | some o=>exact absurd (Heap.lt_size e) (Nat.not_lt.mpr (Nat.le_succ _))
theorem Rel.size_sys1 (O:G.Ok N) {t:Tie}{st:MS}{s:Shared} (R:Rel G t st s):s.heap.objs.size + 1≠sysModules:=by
 obtain ⟨mc,⟨o,es,ep,ho,_⟩,_⟩:=O.lim
 have h1:=Heap.lt_size (R.base _ _ ho)
 intro q
 have h2:s.heap.objs.size=0:=Nat.succ.inj (n:=0) q
 rw [h2] at h1
 exact absurd h1 (Nat.not_lt_zero _)
theorem Stk.under {A:Around}{t:Tie}{h:Heap}{id:String}{a:Args} (K:Stk A t h):Stk (A.under (.builtin id a)) t h:=⟨by unfold Around.under; dsimp only; rw [K.fr]; rfl,K.ob⟩
theorem zm6 (O:G.Ok N) (CO:lf G C d) (hne:∀ c k f,G.P.inits c=some (k,f)→∃ Ca fi,G.ca c=some Ca∧G.fa f=some fi∧NewOk G N c Ca fi)
  {c:Nat}{l:List E}{m:List PySem.Expr}{np pos:Pos} (hg:k8 sc (N.cls c)=true) (hm:qk m=true) (hlm:l.length=m.length) (hl:v7 G C d sc Γ l m) :
  qb G C d sc Γ (.new c l) (.Call (.Name (N.cls c) np) m [] pos):=by
 intro t st s env loc X st' A hA hsc F R e Q E q
 rw [zkw] at e
 obtain ⟨Vs,s1,e1,e⟩:=Res.bind_ok e
 unfold xx at e
 split at e
 case h_2=>exact zd e
 rename_i k f hi
 obtain ⟨Ca,fi,c1,c2,no⟩:=hne c k f hi
 obtain ⟨X1,s2,e2,e⟩:=Res.bind_ok e
 split at e
 case h_2=>exact zd e
 cases e
 refine wpAny_Call_ofName (ba O F R hsc hg no.name ?_)
 refine v9 O (av no.keep) hm hlm hl hA hsc F R e1 fun vs t1 σ1 S1 R1 r1=>?_
 refine wpAny_call ?_
 have XK:=O.K.keeps R1.base
 have K1:=(F.step R S1).sk
 obtain ⟨hh,g,dr,tk,os⟩:=σ1
 refine make_core (makes_of XK no.makes) (looks_findIn XK no.init) (fun self=>bind_fn XK self no.fn) (.inl rfl) ?_
 have keep:∀ b o,hh.get? b=some o→((hh.push emptyDict).push (instObj Ca hh.objs.size)).get? b=some o:=fun b o e=>Heap.get?_push_of_some _ (Heap.get?_push_of_some _ e)
 have fr1:hh.get? (hh.objs.size + 1)=none:=ud _
 have fr0:hh.get? hh.objs.size=none:=qv _
 have hx:((hh.push emptyDict).push (instObj Ca hh.objs.size)).get? (hh.objs.size + 1)=some (instObj Ca hh.objs.size):=by heap_get
 have hd0:((hh.push emptyDict).push (instObj Ca hh.objs.size)).get? hh.objs.size=some emptyDict:=by heap_get
 have hns:NsZ ((hh.push emptyDict).push (instObj Ca hh.objs.size)) hh.objs.size (fun _=>none) 0:=⟨_,#[],0,hd0,rfl,fun e he=>by simp at he,fun _=>rfl,Nat.le_refl _⟩
 have S2:=Step.bind (k:=k) (d:=some hh.objs.size) (s':=⟨(hh.push emptyDict).push (instObj Ca hh.objs.size),g,dr,tk,os⟩) R1 keep rfl rfl fr1 (fun x z=>by cases z; exact fr0)
 have R2:=Rel.bind (k:=k) (d:=some hh.objs.size) (s':=⟨(hh.push emptyDict).push (instObj Ca hh.objs.size),g,dr,tk,os⟩) (o:=.inst c []) R1 keep rfl rfl fr1
  (fun x z=>by cases z; exact ⟨fr0,(fun z=>absurd z (Nat.ne_of_lt (Nat.lt_succ_self _))),by show (Heap.get? _ _).isSome=true; rw [hd0]; rfl⟩) (by show (Heap.get? _ _).isSome=true; rw [hx]; rfl) (R1.size_sys1 O) ⟨_,_,Ca,_,by simp [Tie.bind],by simp [Tie.bind],c1,hx,hns,⟨fun i v z=>(nomatch z),fun x y z=>(nomatch z)⟩⟩
 have ac:AC d (A.under (.builtin "type.__call__" ⟨.ref Ca :: vs,[]⟩)):=⟨hA.hd,by have:=hA.dep; rw [depth_under_make]; lia,by have:=hA.un; rw [units_under_make]; lia⟩
 obtain ⟨fi',z1,z2⟩:=CO f _ _ _ _ e2 _ ac
 rw [c2] at z1; cases z1
 refine z2 _ _ (.ref (hh.objs.size + 1) :: vs) (K1.step0 R1 S2).under R2 ⟨_,_,rfl,⟨_,rfl,by simp [Tie.bind]⟩,VRels.step S2 (fun _ z=>z.elim) _ r1⟩ _ fun v t3 σ3 S3 R3 r3=>?_
 have:v=.none:=r3
 subst this
 exact ⟨rfl,q _ t3 σ3 ((S1.trans S2).trans S3) R3 ⟨_,rfl,S3.le.ρ _ _ (by simp [Tie.bind])⟩⟩
end
end Mine
end
section
namespace Mine
open PySem PySem.W PyProof.Rows
section
variable {G:Gd}{N:Names}{C:Calls}{d:Dp}{sc:Sc}{Γ:Gam}{A:Around}{t:Tie}{st st':MS}{s:Shared}{env:Env}{loc:Loc}{X Y Z:V}{v w:Value}
theorem VRel.madeL (R:Rel G t st s) {s':Shared}{a:Addr}{l:List V}{vs:Array Value} (S:Step noX t t s s') (ha:s.heap.get? a=none) (ho:PL s'.heap a vs) (r:VRels t s.heap l vs.toList) (sz:l.length≤zf):VRel t s'.heap (.lst l) (.ref a) :=
 ⟨_,vs,rfl,ho,R.fresh ha,sz,VRels.step S (fun _ q=>q.elim) l r⟩
theorem VRel.madeT (R:Rel G t st s) {s':Shared}{a:Addr}{l:List V}{vs:Array Value} (S:Step noX t t s s') (ha:s.heap.get? a=none) (ho:PT s'.heap a vs) (r:VRels t s.heap l vs.toList) (sz:l.length≤zf):VRel t s'.heap (.tup l) (.ref a) :=
 ⟨_,vs,rfl,ho,R.fresh ha,sz,VRels.step S (fun _ q=>q.elim) l r⟩
theorem j0 {h:Heap}{l:List V}{vs:Array Value} (r:VRels t h l vs.toList):vs.size=l.length:=by rw [← r.length]; simp
theorem b7 {h h':Heap} (k:∀ b o,h.get? b=some o→h'.get? b=some o) {a:Addr} (e:h'.get? a=none):h.get? a=none:=by
 cases q:h.get? a with
 | none=>rfl
 | some o=>rw [k a o q] at e; cases e
theorem zov {n:Nat} (h:n≤zf):(n:Int) < 2 ^ 63:=by unfold zf at h; lia
theorem o5 (R:Rel G t st s) {k:Bool}{l:List V}{T:PySem.Value→Prop} (hX:VRel t s.heap X v) (e:zv st X=some (k,l)) {Q:Value→Shared→Prop}{E':Value→Shared→Prop}
  (h:∀ h' (vs:Array Value),(∀ b o,s.heap.get? b=some o→h'.get? b=some o)→PL h' s.heap.objs.size vs→VRels t s.heap l vs.toList→l.length≤zf→Q (.ref s.heap.objs.size) { s with heap:=h' }) :
  wpAny G.M A (call (.type "list") [v]) Q E' s:=by
 obtain ⟨a,vs,rfl,io,r,sz⟩:=qo R hX e
 have hz:vs.size≤sizeLine:=by rw [j0 r]; exact sz
 cases k with
 | true =>
  obtain ⟨n,ho⟩:=io
  exact call_list_seq (hsz:=hz) a (.inl rfl) ho rfl rfl fun h' c' hk hD=>h h' vs hk ⟨c',hD⟩ r sz
 | false =>
  obtain ⟨n,ho⟩:=io
  exact call_list_seq (hsz:=hz) a (.inr rfl) ho rfl rfl fun h' c' hk hD=>h h' vs hk ⟨c',hD⟩ r sz
noncomputable def fu:Prim→Bool
 | .sorted=>false
 | _=>true
noncomputable def lw:Prim→Value
 | .len=>.builtin "len" | .max2=>.builtin "max" | .int1=>.type "int" | .sorted=>.builtin "sorted" | .tuple1=>.type "tuple" | .list1=>.type "list" | .all1=>.builtin "all"
theorem si (R:Rel G t st s) {n:Int}{id:String} (h:∀ (Q:Value→Shared→Prop) (E:Value→Shared→Prop),Q (.int n (s.toks + 1)) { s with toks:=s.toks + 1 + 1 }→wpAny G.M A (call (.builtin id) [v]) Q E s) :
  Sim G A t s (call (.builtin id) [v]) st (q7 (.int n)):=fun Q E k=>h Q E (k _ t _ (Step.toks _ t s _) (R.toks _) ⟨_,rfl⟩)
theorem zqc (R:Rel G t st s) (r:VRel t s.heap X v) (e:(match zv st X with
  | some p=>Res.ok (V.int p.2.length) st
  | Option.none=>.stuck)=.ok Z st'):Sim G A t s (call (.builtin "len") [v]) st' (q7 Z):=by
 obtain ⟨⟨k,l⟩,hr,e⟩:=rq e
 obtain ⟨rfl,rfl⟩:=jx e
 obtain ⟨a,vs,rfl,io,rr,sz⟩:=qo R r hr
 have hf:=zov sz
 rw [← j0 rr] at hf
 show Sim G A t s (call (.builtin "len") [.ref a]) st' (q7 (.int l.length))
 rw [← j0 rr]
 cases k with
 | true=>exact si R fun Q E q=>Calls.call_len_list (PL.isList (show PL s.heap a vs from io)) hf q
 | false=>exact si R fun Q E q=>PyProof.Rows.len_tuple (PT.isTup (show PT s.heap a vs from io)) hf q
theorem len_str {x:List Nat} (R:Rel G t st s) (r:VRel t s.heap (.str x) v) (e:zji (.str x) st=.ok Z st'):Sim G A t s (call (.builtin "len") [v]) st' (q7 Z):=by
 obtain ⟨hz,e⟩:=jw e
 obtain ⟨rfl,rfl⟩:=jx e
 obtain ⟨k,rfl⟩:=r
 exact si R fun Q E q=>PySem.P.len_str (Int.not_le.2 (zov hz)) q
theorem zk7 (R:Rel G t st s) (r:VRel t s.heap X v) (e:zji X st=.ok Z st'):Sim G A t s (call (.builtin "len") [v]) st' (q7 Z):=by
 cases X with
 | str x=>exact len_str R r e
 | _=>exact zqc R r e
theorem zdt (R:Rel G t st s) (r:VRel t s.heap X v) (e:zdw .tuple1 X st=.ok Z st'):Sim G A t s (call (.type "tuple") [v]) st' (q7 Z):=by
 obtain ⟨⟨k,l⟩,hr,e⟩:=rq e
 obtain ⟨rfl,rfl⟩:=jx e
 obtain ⟨a,vs,rfl,io,rr,sz⟩:=qo R r hr
 cases k with
 | true =>
  intro Q E k
  refine call_tuple_list (PL.isList (show PL s.heap a vs from io)) (fun h' hk=>?_) (by rw [j0 rr]; exact sz)
  have hk':∀ b o,s.heap.get? b=some o→(h'.push { cls:=.type "tuple",data:=.seq vs }).get? b=some o:=fun b o e=>Heap.get?_push_of_some _ (hk b o e)
  have S:Step noX t t s { s with heap:=h'.push { cls:=.type "tuple",data:=.seq vs } }:=Step.grow R hk' rfl rfl
  exact k _ t _ S (R.grow hk' rfl rfl) (VRel.madeT R S (b7 hk (qv h')) ⟨_,Heap.get?_push_size _ rfl⟩ rr sz)
 | false =>
  rw [rg hr] at r
  exact fun Q E k=>call_tuple_same (PT.isTuple (show PT s.heap a vs from io)) (k _ t s (.refl _ _ _) R r)
theorem zgc (R:Rel G t st s) (r:VRel t s.heap X v) (e:zdw .list1 X st=.ok Z st'):Sim G A t s (call (.type "list") [v]) st' (q7 Z):=by
 obtain ⟨⟨k,l⟩,hr,e⟩:=rq e
 obtain ⟨rfl,rfl⟩:=jx e
 intro Q E q
 refine o5 (T:=fun _=>True) R r hr fun h' vs hk hD rr sz=>?_
 have S:Step noX t t s { s with heap:=h' }:=Step.grow R hk rfl rfl
 exact q _ t _ S (R.grow hk rfl rfl) (VRel.madeL R S (qv _) hD rr sz)
theorem zbn (hq:d.q=true) (p:Prim) (hp:fu p=true) (R:Rel G t st s) (hA:AOk d A) (r:VRel t s.heap X v) (e:zdw p X st=.ok Z st'):Sim G A t s (call (lw p) [v]) st' (q7 Z):=by
 cases p with
 | len=>exact zk7 R r e
 | int1=>cases e
 | tuple1=>exact zdt R r e
 | list1=>exact zgc R r e
 | all1=>cases e
 | max2=>exact zd e
 | sorted=>exact qg hp
theorem zid {V1 V2:V} (hq:d.q=true) (R:Rel G t st s) (hA:AOk d A) (r1:VRel t s.heap V1 v) (r2:VRel t s.heap V2 w) (e:(match V1,V2 with
  | .int x,.int y=>Res.ok (V.int (if x < y then y else x)) st
  | _,_=>.stuck)=.ok Z st'):Sim G A t s (call (.builtin "max") [v,w]) st' (q7 Z):=by
 cases V1 with
 | int x=>cases V2 with
  | int y =>
   obtain ⟨rfl,rfl⟩:=jx e
   obtain ⟨k1,rfl⟩:=r1
   obtain ⟨k2,rfl⟩:=r2
   intro Q E q
   refine max_two_ints (hA.hd hq) fun h' tk hk=>?_
   refine q _ t _ (Step.grow R hk rfl rfl) (R.grow hk rfl rfl) ?_
   by_cases z:x < y
   ·rw [if_pos (show y > x from z),if_pos z]; exact ⟨_,rfl⟩
   ·rw [if_neg (show ¬ y > x from z),if_neg z]; exact ⟨_,rfl⟩
  | _=>exact zd e
 | _=>exact zd e
theorem zdf (hq:d.q=true) (p:Prim) (hp:fu p=true) {Vs:List V}{vs:List Value} (R:Rel G t st s) (hA:AOk d A) (r:VRels t s.heap Vs vs) (e:prim p Vs st=.ok Z st'):Sim G A t s (call (lw p) vs) st' (q7 Z):=by
 cases Vs with
 | nil=>exact zd e
 | cons V1 Vs=>cases Vs with
  | nil=>obtain ⟨v,_,rfl,r1,rfl⟩:=r; exact zbn hq p hp R hA r1 e
  | cons V2 Vs=>cases Vs with
   | nil =>
    obtain ⟨v,_,rfl,r1,w,_,rfl,r2,rfl⟩:=r
    cases p with
    | max2=>exact zid hq R hA r1 r2 e
    | _=>exact zd e
   | cons _ _=>exact zd e
theorem xd (O:G.Ok N) (F:FrOk G A t env Γ loc s) (R:Rel G t st s) {x:PySem.Str}{pos:Pos}{Q E':Value→Shared→Prop} (hsc:env.scope.names=sc) (hg:k8 sc x=true)
  (hx:x∈(["len","max","int","sorted","tuple","list","all","isinstance","range","dict","bool","str","ValueError"]:List PySem.Str)) (hb:bootBuiltins x=some v) (h:Q v s):wpAny G.M A (eval (.Name x pos) env) Q E' s :=
 zcn O F R hsc hg (O.none x hx) hb (by intro z; subst z; revert hx; decide) h
theorem ta (p:Prim) (hp:fu p=true):bootBuiltins (vr p)=some (lw p):=by
 cases p <;> first | exact absurd hp (by decide) | decide +kernel
theorem sj (p:Prim):vr p∈(["len","max","int","sorted","tuple","list","all","isinstance","range","dict","bool","str","ValueError"]:List PySem.Str):=by cases p <;> decide
theorem nq (p:Prim):zbc G (lw p):=by cases p <;> first | exact gy _ | exact rz _
theorem zj5 (hq:d.q=true) (O:G.Ok N) {p:Prim} (hp:fu p=true) {l:List E}{m:List PySem.Expr}{np pos:Pos} (hg:k8 sc (vr p)=true) (hm:qk m=true) (hlm:l.length=m.length) (hl:v7 G C d sc Γ l m) :
  qb G C d sc Γ (.prim p l) (.Call (.Name (vr p) np) m [] pos):=by
 intro t st s env loc X st' A hA hsc F R e Q E k
 rw [ss] at e
 obtain ⟨Vs,s1,e1,e⟩:=Res.bind_ok e
 refine wpAny_Call_ofName (xd O F R hsc hg (sj p) (ta p hp) ?_)
 refine v9 O (nq p) hm hlm hl hA hsc F R e1 fun vs t1 σ1 S1 R1 r1=>?_
 exact zdf hq p hp R1 hA r1 e _ _ fun v t2 σ2 S2 R2 r2=>k v t2 σ2 (S1.trans S2) R2 r2
theorem ze4 (O:G.Ok N) {kd:Nat}{a:E}{x:PySem.Expr}{np pos:Pos} (hg:k8 sc "list"=true) (hx:isStarred x=false) (ha:qb G C d sc Γ a x) :
  qb G C d sc Γ (.listM kd a) (.Call (.Name "list" np) [x] [] pos):=by
 intro t st s env loc X st' A hA hsc F R e Q E k
 rw [em] at e
 obtain ⟨V,s1,e1,e⟩:=Res.bind_ok e
 split at e
 ·rename_i kk l hr
  cases e
  refine wpAny_Call_ofName (xd O F R hsc hg (sj .list1) (ta .list1 rfl) ?_)
  have e1':evL G.P C [a] loc st=.ok [V] s1:=by simp [sf,ym,e1,Res.bind]
  refine v9 O (nq .list1) (l:=[a]) (m:=[x]) (by simp [qk,hx]) rfl (yr hx ha uc) hA hsc F R e1' fun vs t1 σ1 S1 R1 r1=>?_
  obtain ⟨v,_,rfl,r1,rfl⟩:=r1
  refine o5 (T:=fun _=>True) R1 r1 hr fun h' vs hk hD rr sz=>?_
  have S:=Step.bind (k:=kd) (d:=none) (s':={ σ1 with heap:=h' }) R1 hk rfl rfl (qv _) (fun x e=>by exact za e)
  have rho:(t1.bind (kd,s1.cnt kd) σ1.heap.objs.size none).ρ (kd,s1.cnt kd)=some σ1.heap.objs.size:=by simp [Tie.bind]
  refine k _ _ _ (S1.trans S) (Rel.bind R1 hk rfl rfl (qv _) (fun x e=>by exact za e) ?_ (R1.size_sys O) ⟨_,vs,rho,hD,sz,VRels.step S (fun _ q=>q.elim) _ rr⟩) ⟨_,rfl,rho⟩
  obtain ⟨n,ho⟩:=hD
  show (Heap.get? h' _).isSome=true
  rw [ho]; rfl
 ·exact zd e
end
end Mine
end
section
namespace Mine
open PySem PySem.W PyProof.Rows
section
variable {G:Gd}{N:Names}{C:Calls}{d:Dp}{sc:Sc}{Γ:Gam}{A:Around}{t:Tie}{st st':MS}{s:Shared}{env:Env}{loc:Loc}{X Y Z:V}{v w:Value}
theorem zce {p:Lbl×List V} (e:kt X st=some p):X=.ref p.1∧st.heap p.1=some (.list p.2):=by
 cases X with
 | ref r =>
  have e:(match st.heap r with | some (.list l)=>some (r,l) | _=>none)=some p:=e
  cases h:st.heap r with
  | none=>rw [h] at e; exact za e
  | some o=>rw [h] at e; cases o with
   | list l=>cases e; exact ⟨rfl,h⟩
   | _=>exact za e
 | _=>exact za e
theorem dg {p:Lbl×List (V×V)} (e:dictAt X st=some p):X=.ref p.1∧st.heap p.1=some (.dict p.2):=by
 cases X with
 | ref r =>
  have e:(match st.heap r with | some (.dict l)=>some (r,l) | _=>none)=some p:=e
  cases h:st.heap r with
  | none=>rw [h] at e; exact za e
  | some o=>rw [h] at e; cases o with
   | dict l=>cases e; exact ⟨rfl,h⟩
   | _=>exact za e
 | _=>exact za e
theorem yt (R:Rel G t st s) {p:Lbl×List V} (hX:VRel t s.heap X v) (e:kt X st=some p) :
  ∃ a vs n,v=.ref a∧t.ρ p.1=some a∧s.heap.get? a=some { cls:=.type "list",data:=.seq vs n }∧VRels t s.heap p.2 vs.toList∧p.2.length≤zf∧st.heap p.1=some (.list p.2):=by
 obtain ⟨rfl,hr⟩:=zce e
 obtain ⟨a,vs,h1,⟨n,h2⟩,h3,h4⟩:=R.objs p.1 _ hr
 obtain ⟨a',h5,h6⟩:=hX
 cases h1.symm.trans h6
 exact ⟨a,vs,n,h5,h1,h2,h4,h3,hr⟩
theorem um (R:Rel G t st s) {p:Lbl×List (V×V)} (hX:VRel t s.heap X v) (e:dictAt X st=some p) :
  ∃ a kvs,v=.ref a∧t.ρ p.1=some a∧s.heap.DictOf (strKind G.prog G.w) a kvs∧DRel t s.heap p.2 kvs∧st.heap p.1=some (.dict p.2):=by
 obtain ⟨rfl,hr⟩:=dg e
 obtain ⟨a,kvs,h1,h2,h3⟩:=R.objs p.1 _ hr
 obtain ⟨a',h5,h6⟩:=hX
 cases h1.symm.trans h6
 exact ⟨a,kvs,h5,h1,h2,h3,hr⟩
theorem zll (R:Rel G t st s) {r:Lbl}{a:Addr}{l l':List V}{vs':Array Value}{h':Heap}{tk:Nat} (hr:st.heap r=some (.list l)) (ha:t.ρ r=some a) (hs:Heap.SameBut a s.heap h') (ho:PL h' a vs') (rr:VRels t s.heap l' vs'.toList) (sz:l'.length≤zf) :
  Step noX t t.tick s { s with heap:=h',toks:=tk }∧Rel G t.tick (st.put r (.list l')) { s with heap:=h',toks:=tk }:=by
 have hl:(h'.get? a).isSome=true:=by obtain ⟨n,e⟩:=ho; rw [e]; rfl
 have S:=Step.upd (t:=t) (s:=s) (tk:=tk) ⟨r,.inl ha⟩ hl hs
 exact ⟨S,R.upd (l:=r) (.inl ha) hl hs (by rw [hr]; exact fun q=>by cases q) ⟨a,vs',ha,ho,sz,VRels.step S (fun _ z=>z.elim) _ rr⟩⟩
theorem s8 (R:Rel G t st s) {r:Lbl}{a:Addr}{l l':List V}{vs:Array Value}{n:Nat}{tk:Nat}{f:Array Value→Array Value} (hr:st.heap r=some (.list l)) (ha:t.ρ r=some a) (ho:s.heap.get? a=some { cls:=.type "list",data:=.seq vs n })
  (rr:VRels t s.heap l' (f vs).toList) (sz:l'.length≤zf) :
  Step noX t t.tick s { s with heap:=s.heap.update a (Obj.mapSeq f),toks:=tk }∧Rel G t.tick (st.put r (.list l')) { s with heap:=s.heap.update a (Obj.mapSeq f),toks:=tk } :=
 zll R hr ha (Heap.SameBut.update ..) ⟨_,IsL.update ho f⟩ rr sz
noncomputable def zbg:Bm→String
 | .append=>"list.append" | .extend=>"list.extend" | .pop=>"list.pop" | .insert=>"list.insert" | .count=>"list.count" | .get=>"dict.get" | .join=>"str.join" | .upper=>"str.upper"
noncomputable def zdo:Bm→String
 | .append=>"list" | .extend=>"list" | .pop=>"list" | .insert=>"list" | .count=>"list" | .get=>"dict" | .join=>"str" | .upper=>"str"
theorem zn0:(m:Bm)→Slot (zdo m) (zcf m) (zbg m)
 | .append=>PySem.F.slot_list_append
 | .extend=>PySem.F.slot_list_extend
 | .pop=>PySem.F.slot_list_pop
 | .insert=>PySem.F.slot_list_insert
 | .count=>PySem.F.slot_list_count
 | .get=>PySem.F.slot_dict_get
 | .join=>PySem.F.slot_str_join
 | .upper=>PySem.F.slot_str_upper
theorem znw:(m:Bm)→typeOf (.builtin (zbg m))=pure (.type "method_descriptor")
 | .append=>PySem.F.type_list_append
 | .extend=>PySem.F.type_list_extend
 | .pop=>PySem.F.type_list_pop
 | .insert=>PySem.F.type_list_insert
 | .count=>PySem.F.type_list_count
 | .get=>PySem.F.type_dict_get
 | .join=>PySem.F.type_str_join
 | .upper=>PySem.F.type_str_upper
theorem zkm:(m:Bm)→PlainAttrs (zdo m)
 | .append=>PySem.F.plainAttrs_list
 | .extend=>PySem.F.plainAttrs_list
 | .pop=>PySem.F.plainAttrs_list
 | .insert=>PySem.F.plainAttrs_list
 | .count=>PySem.F.plainAttrs_list
 | .get=>PySem.F.plainAttrs_dict
 | .join=>PySem.F.plainAttrs_str
 | .upper=>PySem.F.plainAttrs_str
theorem zjr {i:Int}{n j:Nat} (h:idx i n=some j) (hn:n≤zf):Builtin.List.listFitsIndex i=true:=by
 obtain ⟨h1,h2⟩:=ic h hn
 delta Builtin.List.listFitsIndex
 simp only [Bool.and_eq_true,decide_eq_true_eq]
 lia
theorem to:∀ (l:List PySem.Str) (acc:Array Nat),(l.foldl (fun acc p=>acc ++ (qh []).cps ++ p.cps) acc).toList=acc.toList ++ (l.map (·.cps.toList)).flatten
 | [],acc=>by simp
 | y :: l,acc=>by
  rw [List.foldl_cons,to l]
  simp [qh]
theorem zla (ys:List PySem.Str):Txt.join (qh []) ys=qh (ys.map (·.cps.toList)).flatten:=by
 have h:(Txt.join (qh []) ys).cps.toList=(ys.map (·.cps.toList)).flatten:=by
  cases ys with
  | nil=>rfl
  | cons y l =>
   show (l.foldl (fun acc p=>acc ++ (qh []).cps ++ p.cps) y.cps).toList=_
   rw [to]; simp
 rw [← h]
theorem g8 {h:Heap}:∀ {l:List V}{vs:List Value}{x:List Nat},wu l=some x→VRels t h l vs→∃ ys:List PySem.Str,StrsAre vs ys∧(ys.map (·.cps.toList)).flatten=x∧(ys.map (·.length)).sum=x.length
 | [],_,_,e,r=>by cases r; cases e; exact ⟨[],.nil,rfl,rfl⟩
 | .str y :: l,_,_,e,⟨v,r,e0,⟨k,e9⟩,c⟩=>by
  subst e0; subst e9
  simp only [wu,Option.map_eq_some_iff] at e
  obtain ⟨x',e1,rfl⟩:=e
  obtain ⟨ys,h1,h2,h3⟩:=g8 e1 c
  refine ⟨qh y :: ys,.cons _ _ h1,?_,?_⟩
  ·rw [List.map_cons,List.flatten_cons,h2]
  ·rw [List.map_cons,List.sum_cons,h3,List.length_append]; simp [qh,PySem.Str.length]
 | .none :: _,_,_,e,_=>by exact za e
 | .int _ :: _,_,_,e,_=>by exact za e
 | .bool _ :: _,_,_,e,_=>by exact za e
 | .tup _ :: _,_,_,e,_=>by exact za e
 | .lst _ :: _,_,_,e,_=>by exact za e
 | .ref _ :: _,_,_,e,_=>by exact za e
 | .exc _ :: _,_,_,e,_=>by exact za e
theorem zgf {W:V} (R:Rel G t st s) (r1:VRel t s.heap X v) (r2:VRel t s.heap W w) (e:bm1 .append X W st=.ok Z st'):Sim G A t s (call (.builtin "list.append") [v,w]) st' (q7 Z):=by
 obtain ⟨p,hp,e⟩:=zcc e
 obtain ⟨hz,e⟩:=jw e
 refine Sim.ok e ?_
 obtain ⟨a,vs,n,rfl,h1,h2,h3,h4,h5⟩:=yt R r1 hp
 intro Q E q
 refine call_meets PySem.F.slot_list_append ⟨_,h2,rfl⟩ PySem.F.entry_list_append (PySem.F.args_list_append_2 _ _) (list_append a vs n w (by rw [j0 h3]; exact h4)) ⟨h2,?_⟩
 have u:=s8 (tk:=s.toks) (f:=fun xs=>xs.push w) (l':=p.2 ++ [W]) R h5 h1 h2 (by rw [Array.toList_push]; exact h3.append ⟨w,[],rfl,r2,rfl⟩) (by rw [List.length_append]; exact hz)
 exact q _ t.tick _ u.1 u.2 rfl
theorem znb {m n a b:Nat} (s1:m=a) (s2:n=b) (h:a + b≤zf):m + n≤sizeLine:=by subst s1 s2; exact h
theorem zfv {W:V} (R:Rel G t st s) (r1:VRel t s.heap X v) (r2:VRel t s.heap W w) (e:bm1 .extend X W st=.ok Z st'):Sim G A t s (call (.builtin "list.extend") [v,w]) st' (q7 Z):=by
 obtain ⟨p,hp,e⟩:=zcc e
 obtain ⟨⟨k,l2⟩,hp2,e⟩:=rq e
 obtain ⟨hz,e⟩:=jw e
 refine Sim.ok e ?_
 obtain ⟨a,vs,n,rfl,h1,h2,h3,h4,h5⟩:=yt R r1 hp
 obtain ⟨b,ws,rfl,io,rr,sz⟩:=qo R r2 hp2
 have hs:=znb (j0 h3) (j0 rr) hz
 intro Q E q
 have u:=s8 (tk:=s.toks) (f:=fun xs=>xs ++ ws) (l':=p.2 ++ l2) R h5 h1 h2 (by rw [Array.toList_append]; exact h3.append rr) (by rw [List.length_append]; exact hz)
 have q1:=q _ t.tick _ u.1 u.2 rfl
 have h4:vs.size≤sizeLine:=by rw [j0 h3]; exact h4
 cases k with
 | true =>
  obtain ⟨n2,io⟩:=io
  exact call_meets PySem.F.slot_list_extend ⟨_,h2,rfl⟩ PySem.F.entry_list_extend (PySem.F.args_list_extend_2 _ _) (AutoSeq1.list_extend_list_list_0 a vs n b ws n2 (extend_door hs) h4 (Nat.le_succ_of_le hs)) ⟨h2,io,q1⟩
 | false =>
  obtain ⟨n2,io⟩:=io
  exact call_meets PySem.F.slot_list_extend ⟨_,h2,rfl⟩ PySem.F.entry_list_extend (PySem.F.args_list_extend_2 _ _) (AutoSeq1.list_extend_list_tuple_0 a vs n b ws n2 (extend_door hs) h4 (Nat.le_succ_of_le hs)) ⟨h2,io,q1⟩
theorem sv {vs:Array Value}{j:Nat} (h:j < vs.size):(vs.eraseIdxIfInBounds j).toList=vs.toList.eraseIdx j:=by
 delta Array.eraseIdxIfInBounds; rw [dif_pos h,Array.toList_eraseIdx]
theorem zp2 {W:V} (R:Rel G t st s) (r1:VRel t s.heap X v) (r2:VRel t s.heap W w) (e:bm1 .pop X W st=.ok Z st'):Sim G A t s (call (.builtin "list.pop") [v,w]) st' (q7 Z):=by
 obtain ⟨p,hp,e⟩:=zcc e
 obtain ⟨i,rfl,e⟩:=znc e
 obtain ⟨j,hj,e⟩:=zp1 e
 obtain ⟨y,hy,e⟩:=zp0 e
 refine Sim.ok e ?_
 obtain ⟨a,vs,n,rfl,h1,h2,h3,h4,h5⟩:=yt R r1 hp
 obtain ⟨k,rfl⟩:=r2
 obtain ⟨y',e1,e2⟩:=VRels.get h3 hy
 rw [Array.getElem?_toList] at e1
 intro Q E q
 have u:=s8 (tk:=s.toks) (f:=fun xs=>xs.eraseIdxIfInBounds j) (l':=p.2.eraseIdx j) R h5 h1 h2 (by rw [sv (Array.getElem?_eq_some_iff.1 e1).1]; exact h3.eraseIdx j) (Nat.le_trans (List.length_eraseIdx_le ..) h4)
 refine call_meets PySem.F.slot_list_pop ⟨_,h2,rfl⟩ PySem.F.entry_list_pop (PySem.F.args_list_pop_2 _ _) (PySem.MeetsSeq.list_pop_at a _ n i k j y' (zjr hj h4) (by rw [j0 h3]; exact (ya hj).1) e1 (by rw [j0 h3]; exact h4)) ⟨h2,?_⟩
 exact q _ t.tick _ u.1 u.2 (VRel.step u.1 (fun _ z=>z.elim) _ e2)
theorem znq {W:V} (R:Rel G t st s) (r1:VRel t s.heap X v) (r2:VRel t s.heap W w) (e:bm1 .join X W st=.ok Z st'):Sim G A t s (call (.builtin "str.join") [v,w]) st' (q7 Z):=by
 obtain ⟨x0,rfl,e⟩:=zno e
 cases x0 with
 | cons=>exact zd e
 | nil =>
  obtain ⟨l,rfl,e⟩:=zel e
  obtain ⟨x,hx,e⟩:=zpl e
  obtain ⟨hz,e⟩:=jw e
  refine Sim.ok e ?_
  obtain ⟨a,vs,rfl,io,_,sz,rr⟩:=r2
  obtain ⟨k,rfl⟩:=r1
  obtain ⟨ys,h1,h2,h3⟩:=g8 hx rr
  intro Q E q
  refine join_list io.isList h1 (by rw [h3]; exact hz) fun t' k=>?_
  exact q _ t _ (Step.toks _ t s _) (R.toks _) ⟨t',by show Value.str (Txt.join (qh []) ys) t'=_; rw [zla,h2]⟩
theorem zgk {m:Bm}{W:V} (O:G.Ok N) (R:Rel G t st s) (hA:AOk d A) (r1:VRel t s.heap X v) (r2:VRel t s.heap W w) (e:bm1 m X W st=.ok Z st'):Sim G A t s (call (.builtin (zbg m)) [v,w]) st' (q7 Z):=by
 cases m with
 | append=>exact zgf R r1 r2 e
 | extend=>exact zfv R r1 r2 e
 | pop=>exact zp2 R r1 r2 e
 | join=>exact znq R r1 r2 e
 | _=>exact zd e
noncomputable def zdz:Bm→Bool
 | .upper=>false
 | .insert=>false
 | _=>true
theorem zg3 {m:Bm} (hm:zdz m=true) {W U:V}{u:Value} (O:G.Ok N) (R:Rel G t st s) (hA:AOk d A) (r1:VRel t s.heap X v) (r2:VRel t s.heap W w) (r3:VRel t s.heap U u) (e:bm2 m X W U st=.ok Z st'):Sim G A t s (call (.builtin (zbg m)) [v,w,u]) st' (q7 Z):=by
 cases m with
 | insert=>exact qg hm
 | _=>exact zd e
theorem zb5 {m:Bm} (hm:zdz m=true) {Vs:List V}{vs:List Value} (O:G.Ok N) (R:Rel G t st s) (hA:AOk d A) (r1:VRel t s.heap X v) (r2:VRels t s.heap Vs vs) (e:bq m X Vs st=.ok Z st'):Sim G A t s (call (.builtin (zbg m)) (v :: vs)) st' (q7 Z):=by
 cases Vs with
 | nil =>
  cases m with
  | upper=>exact qg hm
  | _=>exact zd e
 | cons W Vs =>
  obtain ⟨w,_,rfl,r2,r3⟩:=r2
  cases Vs with
  | nil=>cases r3; exact zgk O R hA r1 r2 e
  | cons U Vs =>
   obtain ⟨u,_,rfl,r3,r4⟩:=r3
   cases Vs with
   | nil=>cases r4; exact zg3 hm O R hA r1 r2 r3 e
   | cons _ _=>exact zd e
noncomputable abbrev BmT (s:Shared) (v:Value) (n:String):Prop:=s.TypeIs v n∧∀ a,v=.ref a→∃ ob,s.heap.get? a=some ob∧ob.dict=none
theorem zku {a:Addr}{o:Obj}{n:String} (h:s.heap.get? a=some o) (h1:o.cls=.type n) (h2:o.dict=none):BmT s (.ref a) n:=⟨⟨o,h,h1⟩,fun a' z=>by cases z; exact ⟨o,h,h2⟩⟩
theorem zhx (R:Rel G t st s) (r1:VRel t s.heap X v) (e:(kt X st).isSome=true):BmT s v "list":=by
 obtain ⟨p,hp⟩:=Option.isSome_iff_exists.mp e
 obtain ⟨a,vs,n,rfl,h1,h2,_⟩:=yt R r1 hp
 exact zku h2 rfl rfl
theorem ziq (R:Rel G t st s) (r1:VRel t s.heap X v) (e:(dictAt X st).isSome=true):BmT s v "dict":=by
 obtain ⟨p,hp⟩:=Option.isSome_iff_exists.mp e
 obtain ⟨a,kvs,rfl,h1,h2,_⟩:=um R r1 hp
 exact ⟨h2.typeIs,h2.mapOf.noDict⟩
theorem zeq (e:(match X with | .str _=>true | _=>false)=true) (r1:VRel t s.heap X v):BmT s v "str":=by
 cases X with
 | str x=>obtain ⟨k,rfl⟩:=r1; exact ⟨typeIs_str _ _ _,fun a z=>by cases z⟩
 | _=>exact qg e
theorem zmk (e:(match X with | .lst _=>true | _=>false)=true) (r1:VRel t s.heap X v):BmT s v "list":=by
 cases X with
 | lst x=>obtain ⟨a,vs,rfl,⟨n,ho⟩,_⟩:=r1; exact zku ho rfl rfl
 | _=>exact qg e
theorem zhk {m:Bm} (R:Rel G t st s) (r1:VRel t s.heap X v) (e:za6 m X st=true):BmT s v (zdo m):=by
 cases m with
 | count=>exact zmk e r1
 | get=>exact ziq R r1 e
 | join=>exact zeq e r1
 | upper=>exact zeq e r1
 | _=>exact zhx R r1 e
theorem zpm (O:G.Ok N) {m:Bm} (hmu:zdz m=true) {a:E}{x:PySem.Expr}{l:List E}{es:List PySem.Expr}{ap pos:Pos} (hx:k4 x=true) (hln:(ap.endLine == pos.line)=true) (h30:es.length < 30) (hm:qk es=true) (hlm:l.length=es.length)
  (ha:qb G C d sc Γ a x) (hl:v7 G C d sc Γ l es):qb G C d sc Γ (.bm m a l) (.Call (.Attribute x (zcf m) ap) es [] pos):=by
 intro t st s env loc X st' A hA hsc F R e Q E q
 rw [zj0] at e
 obtain ⟨V,s1,e1,e⟩:=Res.bind_ok e
 obtain ⟨hok,e⟩:=jw e
 ·obtain ⟨Vs,s2,e2,e⟩:=Res.bind_ok e
  refine wpAny_Call_method (bw hx _ _) (oa hm h30) hln (zkm m) (zn0 m) (znw m) ?_
  refine ha t st s env loc _ _ A hA hsc F R e1 _ _ fun v t1 σ1 S1 R1 r1=>?_
  obtain ⟨b1,b2⟩:=zhk R1 r1 hok
  refine ⟨b1,b2,?_⟩
  refine v9 O (gy _) hm hlm hl hA hsc (F.step R S1) R1 e2 fun vs t2 σ2 S2 R2 r2=>?_
  exact zb5 hmu O R2 hA (VRel.step S2 (fun _ z=>z.elim) _ r1) r2 e _ _ fun v t3 σ3 S3 R3 r3=>q v t3 σ3 ((S1.trans S2).trans S3) R3 r3
end
end Mine
end
section
namespace Mine
open PySem PySem.W PyProof.Rows
section
variable {prog:Program}{w:World}{A:Around}{E:Value→Shared→Prop}{s:Shared}
theorem g5 (o:Option (Int×Tok)) {Q:Option Int→Shared→Prop} (h:Q (o.map (·.1)) s):wpAny (model prog w) A (Builtin.Slice.slicePartIndex (partValue o)) Q E s:=by
 cases o with
 | none=>exact slicePart_none h
 | some p=>exact slicePart_int h
theorem zgx (l u:Option Int) (n i j:Nat) (hl:l.elim 0 (clipAt n)=i) (hu:u.elim n (clipAt n)=j):Builtin.Slice.sliceAdjust l u 1 (n:Int)=((i:Int),(j:Int)):=by
 subst hl; subst hu
 have h1:¬ ((1:Int) < 0):=by decide
 have hc:∀ v:Int,((clipAt n v:Nat):Int)=if v < 0 then max (v + n) 0 else min v n:=fun v=>by
  rw [clipAt_cast]
  split <;> lia
 unfold Builtin.Slice.sliceAdjust
 simp only [h1,if_false]
 cases l <;> cases u <;> simp only [Option.elim,hc] <;> rfl
theorem zgv (i j:Nat):Builtin.Slice.slicePlaces (i:Int) (j:Int) 1=j - i:=by
 unfold Builtin.Slice.slicePlaces
 have h1:(1:Int) > 0:=by decide
 simp only [h1,if_true,Int.ediv_one]
 split <;> lia
theorem zm5 (xs:Array Value) (i j:Nat):((List.range (j - i)).filterMap fun (k:Nat)=>xs[((i:Int) + (k:Int) * 1).toNat]?).toArray=((xs.toList.drop i).take (j - i)).toArray:=by
 have e:(fun (k:Nat)=>xs[((i:Int) + (k:Int) * 1).toNat]?)=fun k=>xs[i + k]?:=by
  funext k
  have:((i:Int) + (k:Int) * 1).toNat=i + k:=by lia
  rw [this]
 rw [e]
 have:=pick_run xs i (j - i)
 rw [List.filterMap_map] at this
 exact congrArg List.toArray this
theorem my {sl:Addr}{n i j:Nat}{o1 o2:Option (Int×Tok)}{Q:Int×Int×Nat→Shared→Prop} (hs:s.heap.IsSliceOf sl (partValue o1) (partValue o2) .none) (hl:(o1.map (·.1)).elim 0 (clipAt n)=i) (hu:(o2.map (·.1)).elim n (clipAt n)=j) (h:Q ((i:Int),1,j - i) s) :
  wpAny (model prog w) A (Builtin.Slice.sliceApplied (.ref sl) (pure (n:Int))) Q E s:=by
 obtain ⟨os,hos,hcs,hds⟩:=id hs
 unfold Builtin.Slice.sliceApplied Builtin.Slice.sliceFields
 refine wpAny_bind (wpAny_bind (wpAny_field hos hds (x:=partValue o1) rfl (wpAny_bind (wpAny_field hos hds (x:=partValue o2) rfl (wpAny_bind (wpAny_field hos hds (x:=.none) rfl (wpAny_pure ?_)))))))
 refine wpAny_bind (slicePart_none ?_)
 show wpAny _ _ (if ((1:Int) == 0)=true then _ else _) _ _ s
 rw [if_neg (by decide)]
 refine wpAny_bind (g5 o1 (wpAny_bind (g5 o2 (wpAny_bind (wpAny_pure ?_)))))
 show wpAny _ _ (match Builtin.Slice.sliceAdjust (o1.map (·.1)) (o2.map (·.1)) 1 (n:Int) with | (lo,hi)=>pure (lo,(1:Int),Builtin.Slice.slicePlaces lo hi 1)) _ _ s
 rw [zgx _ _ n i j hl hu]
 show wpAny _ _ (pure ((i:Int),(1:Int),Builtin.Slice.slicePlaces (i:Int) (j:Int) 1)) _ _ s
 rw [zgv]
 exact wpAny_pure h
theorem iu {t sl:Addr}{items:Array Value}{o1 o2:Option (Int×Tok)}{i j:Nat}{Q:Value→Shared→Prop} (ht:IsTup s.heap t items) (hs:s.heap.IsSliceOf sl (partValue o1) (partValue o2) .none) (hl:(o1.map (·.1)).elim 0 (clipAt items.size)=i) (hu:(o2.map (·.1)).elim items.size (clipAt items.size)=j) (hw:j - i≠items.size) (hsz:items.size≤sizeLine)
  (h:Q (.ref s.heap.objs.size) { s with heap:=s.heap.push { cls:=.type "tuple",data:=.seq ((items.toList.drop i).take (j - i)).toArray } }):wpAny (model prog w) A (PySem.getItem (.ref t) (.ref sl)) Q E s:=by
 have hok:sizeOk (.seq ((items.toList.drop i).take (j - i)).toArray):=by
  show ((items.toList.drop i).take (j - i)).toArray.size≤sizeLine
  rw [List.size_toArray,List.length_take,List.length_drop,Array.length_toList]
  lia
 obtain ⟨os,hos,hcs,hds⟩:=id hs
 have hTs:s.TypeIs (.ref sl) "slice":=⟨os,hos,hcs⟩
 unfold PySem.getItem
 try with_reducible refine wpAny_holding ?_
 first | refine wpAny_bind (wpAny_pure ?_) | skip
 refine wpAny_bind (wpAny_sequenceKey ht.typeIs (by decide) ?_)
 refine wpAny_bind (wpAny_callSpecial?_slot (name:=Str.ofString "__getitem__") ht.typeIs slot_tuple_getitem
  (wpAny_call_entry slot_tuple_getitem ht.typeIs entry_tuple_getitem ?_ (args_tuple_getitem _ _)))
 show wpAny _ _ (Builtin.Tuple.tupleItemsOf (.ref t) >>= _) _ _ s
 refine wpAny_bind (tupleItemsOf_ ht ?_)
 refine wpAny_bind (wpAny_typeOf hTs ?_)
 rw [if_pos (by decide)]
 refine wpAny_bind (my hs hl hu ?_)
 have hno:¬ (((i:Int) == 0 && (1:Int) == 1 && (j - i) == items.size)=true):=by
  rw [beq_eq_false_iff_ne.2 hw,Bool.and_false]; exact Bool.false_ne_true
 show wpAny _ _ (if ((i:Int) == 0 && (1:Int) == 1 && (j - i) == items.size)=true then _ else _) _ _ s
 rw [if_neg hno,zm5 items i j]
 first
  | exact wpAny_bind (m:=Builtin.Tuple.tupleExact _) (wpAny_newObj_type (wpAny_pure ⟨_,rfl,wpAny_pure h⟩) hok)
  | exact wpAny_bind (m:=Builtin.Tuple.tupleExact _) (wpAny_newObj_type (wpAny_bind (wpAny_pure (wpAny_pure ⟨_,rfl,wpAny_pure h⟩))) hok)
  | exact wpAny_bind (wpAny_bind (m:=Builtin.Tuple.tupleExact _) (wpAny_newObj_type (wpAny_pure (wpAny_pure ⟨_,rfl,wpAny_pure h⟩)) hok))
  | exact wpAny_bind (wpAny_bind (m:=Builtin.Tuple.tupleExact _) (wpAny_newObj_type (wpAny_pure ⟨_,rfl,wpAny_pure h⟩) hok))
end
end Mine
end
section
namespace Mine
open PySem PySem.W PyProof.Rows
section
variable {G:Gd}{N:Names}{C:Calls}{d:Dp}{sc:Sc}{Γ:Gam}{A:Around}{t:Tie}{st st':MS}{s:Shared}{env:Env}{loc:Loc}{X Y Z:V}{v w:Value}
noncomputable abbrev gg (p:Option V):Tie→Shared→Value→Prop:=fun t s v=>match p with | none=>v=.none | some X=>VRel t s.heap X v
noncomputable def zdg (G:Gd) (C:Calls) (d:Dp) (sc:Sc) (Γ:Gam) (e:Option E) (ast:Option PySem.Expr):Prop :=
 ∀ t st s env loc p st' A,AOk d A→env.scope.names=sc→FrOk G A t env Γ loc s→Rel G t st s→evO G.P C e loc st=.ok p st'→Sim G A t s (evalPart ast env) st' (gg p)
theorem zft:zdg G C d sc Γ none none:=by
 intro t st s env loc p st' A hA hsc F R e Q E k
 simp only [zby,zau] at e
 cases e
 exact wpAny_pure (k _ t s (.refl _ _ _) R rfl)
theorem zgq {e:E}{x:PySem.Expr} (h:qb G C d sc Γ e x):zdg G C d sc Γ (some e) (some x):=by
 intro t st s env loc p st' A hA hsc F R e Q E k
 simp only [zby,zau] at e
 obtain ⟨v,s1,e1,e⟩:=Res.bind_ok e
 cases e
 exact h t st s env loc v _ A hA hsc F R e1 _ _ fun y t1 σ1 S1 R1 r1=>k y t1 σ1 S1 R1 r1
theorem zf5 {D i:Nat}{X:V} (e:ke D (some X)=some i):X=.int i:=by
 cases X with
 | int z =>
  have e:(if 0≤z then some z.toNat else Option.none)=some i:=e
  by_cases h:0≤z
  ·rw [if_pos h] at e; cases e; rw [Int.toNat_of_nonneg h]
  ·rw [if_neg h] at e; exact za e
 | _=>exact za e
theorem y4 {D n:Nat}{p:Option V}{i:Nat} (e:ke D p=some i) (r:gg p t s v):∃ o:Option (Int×Tok),v=partValue o∧(o.map (·.1)).elim (min D n) (clipAt n)=min i n:=by
 cases p with
 | none=>cases e; exact ⟨none,r,rfl⟩
 | some X =>
  cases zf5 e
  obtain ⟨k,rfl⟩:=r
  exact ⟨some (i,k),rfl,clipAt_nat ..⟩
theorem th (o:Option (Int×Tok)):IsPart (partValue o) (o.map (·.1)):=by
 cases o with
 | none=>exact .none
 | some p=>exact .int p.1 p.2
theorem gr {α:Type} (l:List α) (i j n:Nat) (hn:n=l.length):(l.drop (min i n)).take (min j n - min i n)=(l.take j).drop i:=by
 rw [List.drop_take]
 subst hn
 rcases Nat.le_total i l.length with h | h
 ·rw [Nat.min_eq_left h]
  rcases Nat.le_total j l.length with h2 | h2
  ·rw [Nat.min_eq_left h2]
  ·rw [Nat.min_eq_right h2,List.take_of_length_le (by simp),List.take_of_length_le (by simp; lia)]
 ·rw [Nat.min_eq_right h,List.drop_of_length_le (Nat.le_refl _),List.drop_of_length_le h]; simp
theorem zf4 (x:List Nat) (l u:Option Int) (i j:Nat) (hl:l.elim 0 (clipAt x.length)=min i x.length) (hu:u.elim x.length (clipAt x.length)=min j x.length):Txt.slice (qh x) l u=qh ((x.take j).drop i):=by
 have hlen:(qh x).length=x.length:=by simp [qh,PySem.Str.length]
 have hidx:Builtin.Str.strSliceIndices l u 1 x.length=(List.range (min j x.length - min i x.length)).map (min i x.length + ·):=by
  rw [← sliceRange_one]
  unfold Builtin.Str.strSliceIndices
  simp only [show (1:Int) > 0 by decide,if_true]
  rw [← hl,← hu]
  cases l <;> cases u <;> simp [clipAt_cast]
 have hpick:=pick_run x.toArray (min i x.length) (min j x.length - min i x.length)
 unfold Txt.slice
 rw [hlen,hidx]
 split
 ·rename_i hw
  simp only [BEq.rfl,Bool.true_and,List.length_map,List.length_range,beq_iff_eq] at hw
  rw [← gr x i j _ rfl]
  have h1:min i x.length=0:=by lia
  rw [h1] at hw ⊢
  rw [hw]; simp
 ·show PySem.Str.mk _=PySem.Str.mk _
  congr 1
  rw [← gr x i j _ rfl]
  show (List.filterMap (fun k=>x.toArray[k]?) _).toArray=_
  rw [hpick]
theorem ak {x:PySem.Str}{tk:Tok}{a:Addr}{l u:Option (Int×Tok)}{Q E:Value→Shared→Prop} (hs:s.heap.IsSlice a l u none) (hsz:x.length≤sizeLine)
  (h:∀ t' k,Q (.str (Txt.slice x (l.map (·.1)) (u.map (·.1))) t') { s with toks:=k }):wpAny G.M A (PySem.getItem (.str x tk) (.ref a)) Q E s :=
 wpAny_getItem_str_slice hs rfl (post_val_or_str ⟨Nat.le_trans (Txt.slice_le x _ _) hsz,h⟩)
theorem zlk {α:Type} (m:List α) (i j:Nat):((m.take j).drop i).length≤m.length:=by
 rw [List.length_drop,List.length_take]; exact Nat.le_trans (Nat.sub_le ..) (Nat.min_le_right ..)
theorem zaj {m:List V}{i j:Nat} (h:((m.take j).drop i).length < m.length):min j m.length - min i m.length≠m.length:=by
 rw [List.length_drop,List.length_take] at h
 omega
noncomputable abbrev uj (vl vu:Value):Obj:={ cls:=.type "slice",data:=.fields #[vl,vu,.none] }
theorem ze5 {B:V}{p q:Option V}{vl vu:Value}{x:PySem.Expr}{l u:Option PySem.Expr}{sp:Pos}{m:List V}{i j:Nat} (R:Rel G t st s) (r1:VRel t s.heap B v) (r2:gg p t s vl) (r3:gg q t s vu)
  (hm:zv st B=some (true,m)) (hi:ke 0 p=some i) (hj:ke m.length q=some j) {Q E:Value→Shared→Prop} (k:∀ v t' s',Step noX t t' s s'→Rel G t' st s'→VRel t' s'.heap (.lst ((m.take j).drop i)) v→Q v s') :
  wpAny G.M A (subscriptTail x (.Slice l u none sp) v (.ref s.heap.objs.size)) Q E { s with heap:=s.heap.push (uj vl vu) }:=by
 obtain ⟨a,vs,rfl,io,rr,sz⟩:=qo R r1 hm
 have hsz:vs.size=m.length:=j0 rr
 obtain ⟨o1,rfl,p1⟩:=y4 (n:=m.length) hi r2
 obtain ⟨o2,rfl,p2⟩:=y4 (n:=m.length) hj r3
 rw [Nat.zero_min] at p1
 rw [Nat.min_self] at p2
 have S4:=Step.push R (uj (partValue o1) (partValue o2))
 have R4:=R.push (uj (partValue o1) (partValue o2))
 have io4:=(PL.isList (show PL s.heap a vs from io)).push (uj (partValue o1) (partValue o2))
 refine tail_any io4.typeIs slot_list_getitem.lookup (wpAny_getItem_list_slice io4 (Heap.IsSliceOf.new ..) (th o1) (th o2) .none nofun ?_ (by rw [hsz]; exact sz)) rfl
 have hpick:slicePick vs (o1.map (·.1)) (o2.map (·.1)) none=((vs.toList.take j).drop i).toArray:=by
  rw [slicePick_plain,hsz,p1,p2,gr _ _ _ _ (hsz.symm.trans Array.length_toList.symm)]
 refine k _ t _ (S4.trans (Step.push R4 { cls:=.type "list",data:=.seq (slicePick vs (o1.map (·.1)) (o2.map (·.1)) none) })) (R4.push _) ?_
 rw [hpick]
 exact VRel.newL R4 (VRels.drop i (VRels.take j (VRels.step S4 (fun _ z=>z.elim) _ rr))) (Nat.le_trans (zlk m i j) sz)
theorem zfs {B:V}{p q:Option V}{vl vu:Value}{x:PySem.Expr}{l u:Option PySem.Expr}{sp:Pos}{m:List V}{i j:Nat} (R:Rel G t st s) (r1:VRel t s.heap B v) (r2:gg p t s vl) (r3:gg q t s vu)
  (hm:zv st B=some (false,m)) (hi:ke 0 p=some i) (hj:ke m.length q=some j) (hw:((m.take j).drop i).length < m.length) {Q E:Value→Shared→Prop} (k:∀ v t' s',Step noX t t' s s'→Rel G t' st s'→VRel t' s'.heap (.tup ((m.take j).drop i)) v→Q v s') :
  wpAny G.M A (subscriptTail x (.Slice l u none sp) v (.ref s.heap.objs.size)) Q E { s with heap:=s.heap.push (uj vl vu) }:=by
 obtain ⟨a,vs,rfl,⟨n,io⟩,rr,sz⟩:=qo R r1 hm
 have hsz:vs.size=m.length:=j0 rr
 obtain ⟨o1,rfl,p1⟩:=y4 (n:=m.length) hi r2
 obtain ⟨o2,rfl,p2⟩:=y4 (n:=m.length) hj r3
 rw [Nat.zero_min] at p1
 rw [Nat.min_self] at p2
 have S4:=Step.push R (uj (partValue o1) (partValue o2))
 have R4:=R.push (uj (partValue o1) (partValue o2))
 have io4:IsTup (s.heap.push (uj (partValue o1) (partValue o2))) a vs:=⟨_,Heap.get?_push_of_some _ io,rfl,n,rfl⟩
 refine tail_any io4.typeIs slot_tuple_getitem.lookup (iu (i:=min i m.length) (j:=min j m.length) io4 (Heap.IsSliceOf.new ..) (by rw [hsz]; exact p1) (by rw [hsz]; exact p2) (by rw [hsz]; exact zaj hw) (by rw [hsz]; exact sz) ?_) rfl
 rw [gr vs.toList i j _ (hsz.symm.trans Array.length_toList.symm)]
 exact k _ t _ (S4.trans (Step.push R4 { cls:=.type "tuple",data:=.seq ((vs.toList.take j).drop i).toArray })) (R4.push _) (VRel.newT R4 (VRels.drop i (VRels.take j (VRels.step S4 (fun _ z=>z.elim) _ rr))) (Nat.le_trans (zlk m i j) sz))
theorem zho {y:List Nat}{p q:Option V}{vl vu:Value}{x:PySem.Expr}{l u:Option PySem.Expr}{sp:Pos}{i j:Nat} (R:Rel G t st s) (r1:VRel t s.heap (.str y) v) (r2:gg p t s vl) (r3:gg q t s vu)
  (hz:y.length≤zf) (hi:ke 0 p=some i) (hj:ke y.length q=some j) {Q E:Value→Shared→Prop} (k:∀ v t' s',Step noX t t' s s'→Rel G t' st s'→VRel t' s'.heap (.str ((y.take j).drop i)) v→Q v s') :
  wpAny G.M A (subscriptTail x (.Slice l u none sp) v (.ref s.heap.objs.size)) Q E { s with heap:=s.heap.push (uj vl vu) }:=by
 obtain ⟨ky,rfl⟩:=r1
 obtain ⟨o1,rfl,p1⟩:=y4 (n:=y.length) hi r2
 obtain ⟨o2,rfl,p2⟩:=y4 (n:=y.length) hj r3
 rw [Nat.zero_min] at p1
 rw [Nat.min_self] at p2
 refine tail_any (typeIs_str _ _ _) PySem.F.slot_str_getitem.lookup (ak (l:=o1) (u:=o2) ⟨_,Heap.get?_push_size _ rfl,rfl,rfl⟩ hz fun t' k'=>?_) rfl
 exact k _ t _ ((Step.push R _).trans (Step.toks _ _ _ k')) ((R.push _).toks k') ⟨t',by rw [zf4 y _ _ i j p1 p2]⟩
theorem fp {o1 o2:Option Nat}{f:Nat→Nat→Res V}{Z:V} (e:(match o1,o2 with | some i,some j=>f i j | _,_=>.stuck)=.ok Z st'):∃ i j,o1=some i∧o2=some j∧f i j=.ok Z st':=by
 cases o1 with
 | none=>exact zd e
 | some i=>cases o2 with
  | none=>exact zd e
  | some j=>exact ⟨i,j,rfl,rfl,e⟩
theorem zfu {B:V}{p q:Option V}{vl vu:Value}{x:PySem.Expr}{l u:Option PySem.Expr}{sp:Pos} (R:Rel G t st s) (r1:VRel t s.heap B v) (r2:gg p t s vl) (r3:gg q t s vu)
  (e:(match (motive:=_→Res V) zv st B with
  | some (true,l)=>match ke 0 p,ke l.length q with
   | some i,some j=>Res.ok (V.lst ((l.take j).drop i)) st
   | _,_=>.stuck
  | some (false,l)=>match ke 0 p,ke l.length q with
   | some i,some j=>if ((l.take j).drop i).length < l.length then Res.ok (V.tup ((l.take j).drop i)) st else .stuck
   | _,_=>.stuck
  | Option.none=>.stuck)=.ok Z st') {Q E:Value→Shared→Prop} (k:∀ v t' s',Step noX t t' s s'→Rel G t' st' s'→VRel t' s'.heap Z v→Q v s') :
  wpAny G.M A (subscriptTail x (.Slice l u none sp) v (.ref s.heap.objs.size)) Q E { s with heap:=s.heap.push (uj vl vu) }:=by
 cases hm:zv st B with
 | none=>rw [hm] at e; exact zd e
 | some m =>
  rw [hm] at e
  obtain ⟨b,m⟩:=m
  cases b with
  | true =>
   obtain ⟨i,j,hi,hj,e⟩:=fp e
   obtain ⟨rfl,rfl⟩:=jx e
   exact ze5 R r1 r2 r3 hm hi hj k
  | false =>
   obtain ⟨i,j,hi,hj,e⟩:=fp e
   obtain ⟨hw,e⟩:=jw e
   obtain ⟨rfl,rfl⟩:=jx e
   exact zfs R r1 r2 r3 hm hi hj hw k
theorem zf6 {y:List Nat}{p q:Option V}{vl vu:Value}{x:PySem.Expr}{l u:Option PySem.Expr}{sp:Pos} (R:Rel G t st s) (r1:VRel t s.heap (.str y) v) (r2:gg p t s vl) (r3:gg q t s vu)
  (e:xu (.str y) p q st=.ok Z st') {Q E:Value→Shared→Prop} (k:∀ v t' s',Step noX t t' s s'→Rel G t' st' s'→VRel t' s'.heap Z v→Q v s') :
  wpAny G.M A (subscriptTail x (.Slice l u none sp) v (.ref s.heap.objs.size)) Q E { s with heap:=s.heap.push (uj vl vu) }:=by
 obtain ⟨i,j,hi,hj,e⟩:=fp e
 obtain ⟨hz,e⟩:=jw e
 obtain ⟨rfl,rfl⟩:=jx e
 exact zho R r1 r2 r3 hz hi hj k
theorem oq {t':Tie}{s':Shared}{p:Option V} (S:Step noX t t' s s') (r:gg p t s v):gg p t' s' v:=by
 cases p with
 | none=>exact r
 | some X=>exact VRel.step S (fun _ z=>z.elim) _ r
theorem zf7 {a:E}{lo hi:Option E}{x:PySem.Expr}{l u:Option PySem.Expr}{sp pos:Pos} (ha:qb G C d sc Γ a x) (hlo:zdg G C d sc Γ lo l) (hhi:zdg G C d sc Γ hi u):qb G C d sc Γ (.slice a lo hi) (.Subscript x (.Slice l u none sp) pos):=by
 intro t st s env loc X st' A hA hsc F R e Q E k
 rw [et] at e
 obtain ⟨B,s1,e1,e⟩:=Res.bind_ok e
 obtain ⟨p,s2,e2,e⟩:=Res.bind_ok e
 obtain ⟨q,s3,e3,e⟩:=Res.bind_ok e
 refine Subscript_ (ha t st s env loc _ _ A hA hsc F R e1 _ _ fun v t1 σ1 S1 R1 r1=>?_)
 have F1:=F.step R S1
 refine wpAny_Slice (hlo t1 s1 σ1 env loc p s2 A hA hsc F1 R1 e2 _ _ fun vl t2 σ2 S2 R2 r2=>?_)
 refine hhi t2 s2 σ2 env loc q s3 A hA hsc (F1.step R1 S2) R2 e3 _ _ fun vu t3 σ3 S3 R3 r3=>?_
 rw [evalPart_none]
 refine wpAny_pure ?_
 have r1':=VRel.step (S2.trans S3) (fun _ z=>z.elim) _ r1
 have k':∀ v t' s',Step noX t3 t' σ3 s'→Rel G t' st' s'→VRel t' s'.heap X v→Q v s':=fun v t' s' S4=>k v t' s' (((S1.trans S2).trans S3).trans S4)
 cases B with
 | str y=>exact zf6 R3 r1' (oq S3 r2) r3 e k'
 | _=>exact zfu R3 r1' (oq S3 r2) r3 e k'
end
end Mine
end
section
set_option maxRecDepth 100000
namespace Mine
open PySem PySem.W PyProof.Rows
section
variable {G:Gd}{N:Names}{C:Calls}{d:Dp}{sc:Sc}{Γ:Gam}{A:Around}{t:Tie}{st st':MS}{s:Shared}{env:Env}{loc:Loc}{X Y Z:V}{v w:Value}
noncomputable def w9:Tag→String
 | .none=>"NoneType" | .bool=>"bool" | .int=>"int" | .str=>"str" | .tuple=>"tuple" | .list=>"list" | .dict=>"dict"
noncomputable def yw:Kind→String
 | .int=>"int" | .bool=>"bool" | .str=>"str" | .list=>"list" | .tuple=>"tuple" | .valueError=>"ValueError" | .cls _=>""
noncomputable def xl:Kind→Bool
 | .int=>true | .bool=>true | .str=>true | .list=>true | .tuple=>true | _=>false
theorem zpd (K:Frag) (g:Tag) (k:Kind) (hk:xl k=true):kitOne K (.type (w9 g)) (.type (yw k))=m7 g k:=by
 cases k with
 | valueError=>exact qg hk
 | cls=>exact qg hk
 | _=>cases g <;> kernel_rfl
theorem zef (K:Frag) (g:Tag) (k:Kind) (hk:xl k=true) {b:Bool} (e:m7 g k=some b):kitOne K (.type (w9 g)) (.type (yw k))=some b:=(zpd K g k hk).trans e
noncomputable abbrev KT (G:Gd) (s:Shared) (v:Value) (n:String):Prop:=∃ H,KitX G.K v (.type n) H∧H s.heap∧v≠.builtin "__main__.__loader__#opaque"
theorem uz {g g':Tag} (hv:v=w) (h:KT G s w (w9 g')) (e:some g'=some g):KT G s v (w9 g):=by cases e; cases hv; exact h
theorem zas {a:Addr}{vs:Array Value} (h:PL s.heap a vs):KT G s (.ref a) "list":=h.elim fun _ ho=>⟨_,kitx_list,⟨_,ho,rfl⟩,nofun⟩
theorem zny {a:Addr}{vs:Array Value} (h:PT s.heap a vs):KT G s (.ref a) "tuple":=h.elim fun _ ho=>⟨_,kitx_tuple,⟨_,ho,rfl⟩,nofun⟩
theorem zok (R:Rel G t st s) {g:Tag}{l:Lbl} (r:VRel t s.heap (.ref l) v) (e:zb3 st (.ref l)=some g):KT G s v (w9 g):=by
 have e:(match st.heap l with | some (.list _)=>some Tag.list | some (.dict _)=>some Tag.dict | _=>none)=some g:=e
 obtain ⟨a',hv,e2⟩:=r
 cases hl:st.heap l with
 | none=>rw [hl] at e; exact za e
 | some o =>
  rw [hl] at e
  cases o with
  | list m =>
   obtain ⟨a,vs,h1,h2,_⟩:=R.objs l _ hl
   cases h1.symm.trans e2
   exact uz hv (zas h2) e
  | dict m =>
   obtain ⟨a,kvs,h1,h2,_⟩:=R.objs l _ hl
   cases h1.symm.trans e2
   obtain ⟨o,h3,h4⟩:=h2.typeIs
   exact uz hv ⟨_,kitx_dict,⟨o,h3,h4⟩,nofun⟩ e
  | _=>exact za e
theorem zeb (R:Rel G t st s) {g:Tag} (r:VRel t s.heap X v) (e:zb3 st X=some g):∃ H,KitX G.K v (.type (w9 g)) H∧H s.heap∧v≠.builtin "__main__.__loader__#opaque":=by
 cases X with
 | none=>exact uz r ⟨_,kitx_none,trivial,nofun⟩ e
 | bool b=>exact uz r ⟨_,kitx_bool,trivial,nofun⟩ e
 | int i=>exact r.elim fun _ hv=>uz hv ⟨_,kitx_int,trivial,nofun⟩ e
 | str i=>exact r.elim fun _ hv=>uz hv ⟨_,kitx_str,trivial,nofun⟩ e
 | tup l=>obtain ⟨a,vs,hv,ho,_⟩:=r; exact uz hv (zny ho) e
 | lst l=>obtain ⟨a,vs,hv,ho,_⟩:=r; exact uz hv (zas ho) e
 | exc c=>exact za e
 | ref l=>exact zok R r e
theorem zk9 {o:Option Tag}{f:Tag→Option Bool}{b:Bool} (e:(match o with | some g=>f g | Option.none=>Option.none)=some b):∃ g,o=some g∧f g=some b:=by
 cases o with
 | none=>exact za e
 | some g=>exact ⟨g,rfl,e⟩
theorem b5 {P:Prog}{k:Kind}{b:Bool} (hk:xl k=true) (e:b8 P st X k=some b):∃ g,zb3 st X=some g∧m7 g k=some b:=by
 cases X with
 | exc d =>
  cases k with
  | valueError=>exact qg hk
  | cls=>exact qg hk
  | _=>exact za e
 | _=>exact zk9 e
theorem p6 {P:Prog} (K:Frag):∀ {ks:List Kind}{b:Bool}{g:Tag},(∀ k∈ks,xl k=true)→zb3 st X=some g→wy P st X ks=some b→kitAny K (.type (w9 g)) (ks.map fun k=>.type (yw k))=some b
 | [],_,_,_,_,e=>by cases e; rfl
 | k :: ks,b,g,hu,hg,e=>by
  simp only [wy] at e
  simp only [List.map_cons,kitAny]
  cases q:b8 P st X k with
  | none=>rw [q] at e; exact za e
  | some b' =>
   rw [q] at e
   obtain ⟨g',h1,h2⟩:=b5 (hu k (.head _)) q
   rw [hg] at h1; cases h1
   rw [zef K g k (hu k (.head _)) h2]
   cases b' with
   | true=>cases e; rfl
   | false=>exact p6 K (fun k hk=>hu k (.tail _ hk)) hg e
theorem zfg (k:Kind) (hk:xl k=true):∃ x:PySem.Str,d8 k=some x∧bootBuiltins x=some (.type (yw k))∧x∈(["len","max","int","sorted","tuple","list","all","isinstance","range","dict","bool","str","ValueError"]:List PySem.Str):=by
 cases k <;> first | exact (Bool.false_ne_true hk).elim | exact ⟨_,rfl,by decide +kernel,by decide⟩
theorem u7 (O:G.Ok N) (F:FrOk G A t env Γ loc s) (R:Rel G t st s) (hsc:env.scope.names=sc) {k:Kind} (hk:xl k=true) {y:PySem.Expr} (hc:gc N sc k y=true) {Q E':Value→Shared→Prop} (h:Q (.type (yw k)) s):isStarred y=false∧wpAny G.M A (eval y env) Q E' s:=by
 obtain ⟨x,h1,h2,h3⟩:=zfg k hk
 cases y with
 | Name x' p =>
  obtain ⟨hx,hg⟩:=Bool.and_eq_true_iff.1 (hc:(d8 k == some x' && k8 sc x')=true)
  cases h1.symm.trans (eq_of_beq hx)
  exact ⟨rfl,xd O F R hsc hg h3 h2 h⟩
 | _=>exact qg hc
theorem dl (O:G.Ok N) (hsc:env.scope.names=sc) (pos:Pos):∀ {ks:List Kind}{ys:List PySem.Expr}{Q:List Value→Shared→Prop}{E':Value→Shared→Prop},(∀ k∈ks,xl k=true)→uw N sc ks ys=true→∀ {t:Tie}{st:MS}{s:Shared},FrOk G A t env Γ loc s→Rel G t st s →
  Q (ks.map fun k=>.type (yw k)) s→wpAny G.M A (spliced (backTo pos (starEach ys env))) Q E' s
 | [],[],_,_,_,_,_,_,_,_,_,h=>Calls.spliced_nil h
 | [],_ :: _,_,_,_,e,_,_,_,_,_,_=>by exact qg e
 | _ :: _,[],_,_,_,e,_,_,_,_,_,_=>by exact qg e
 | k :: ks,y :: ys,Q,E',hu,e,t,st,s,F,R,h=>by
  have e:=Bool.and_eq_true_iff.1 (e:(gc N sc k y && uw N sc ks ys)=true)
  have hs:=(u7 (A:=A) (Q:=fun _ _=>True) (E':=fun _ _=>True) O F R hsc (hu k (.head _)) e.1 trivial).1
  refine wpAny_items_cons (u7 O F R hsc (hu k (.head _)) e.1 ?_).2 (vc hs ys env)
  exact dl O hsc pos (fun k hk=>hu k (.tail _ hk)) e.2 F R h
theorem zan {f:Value}{pos:Pos}{x y:PySem.Expr}{Q:Args→Shared→Prop}{E':Value→Shared→Prop} (hx:isStarred x=false) (hy:isStarred y=false)
  (h:wpAny G.M A (eval x env) (fun v s1=>wpAny G.M A (eval y env) (fun w s2=>Q ⟨[v,w],[]⟩ s2) E' s1) E' s):wpAny G.M A (evalArgs f true (backTo pos (starEach [x,y] env)) []) Q E' s:=by
 have q:wpAny G.M A (spliced (backTo pos (starEach [x,y] env))) (fun vs s'=>Q ⟨vs,[]⟩ s') E' s:=by
  refine wpAny_items_cons (wpAny_mono h (fun v s1 h1=>?_) fun _ _ e=>e) (vc hx [y] env)
  refine wpAny_items_cons (wpAny_mono h1 (fun w s2 h2=>?_) fun _ _ e=>e) (vc hy [] env)
  exact Calls.spliced_nil h2
 rw [vc hx] at q ⊢
 exact Calls.evalArgs_plain q
theorem i6 (O:G.Ok N) {a:E}{x y:PySem.Expr}{k:Kind}{np pos:Pos} (hk:xl k=true) (hg:k8 sc "isinstance"=true) (hx:isStarred x=false) (hc:gc N sc k y=true) (ha:qb G C d sc Γ a x) :
  qb G C d sc Γ (.isinst a [k]) (.Call (.Name "isinstance" np) [x,y] [] pos):=by
 intro t st s env loc X st' A hA hsc F R e Q E q
 rw [tl] at e
 obtain ⟨V,s1,e1,e⟩:=Res.bind_ok e
 unfold okB at e
 split at e
 ·rename_i b hb
  obtain ⟨rfl,rfl⟩:X=.bool b∧st'=s1:=by cases e; exact ⟨rfl,rfl⟩
  have hy:=(u7 (A:=A) (Q:=fun _ _=>True) (E':=fun _ _=>True) O F R hsc hk hc trivial).1
  have hkk:b8 G.P st' V k=some b:=by
   simp only [wy] at hb
   cases z:b8 G.P st' V k with
   | none=>rw [z] at hb; exact za hb
   | some b'=>rw [z] at hb; cases b' <;> exact hb
  obtain ⟨g,g1,g2⟩:=b5 hk hkk
  refine wpAny_Call_ofName (xd (v:=.builtin "isinstance") O F R hsc hg (by decide) (by decide +kernel) ?_)
  refine callWith_of (P:=G.K.In) (by rw [yk pos env (m:=[x,y]) (by simp [qk,hx,hy])]; rfl) (gy _) (zan hx hy ?_)
  refine ha t st s env loc _ _ A hA hsc F R e1 _ _ fun v t1 σ1 S1 R1 r1=>?_
  refine (u7 O (F.step R S1) R1 hsc hk hc ?_).2
  have XK:=O.K.keeps R1.base
  refine ⟨XK,?_⟩
  obtain ⟨H,Z,hH,hne⟩:=zeb R1 r1 g1
  exact kia_one Z XK hH (zef G.K g k hk g2) hne fun tk=>q _ t1 _ (S1.trans (Step.toks _ _ _ tk)) (R1.toks tk) rfl
 ·exact zd e
theorem zbd (O:G.Ok N) {a:E}{x:PySem.Expr}{ys:List PySem.Expr}{k k':Kind}{np pos tp:Pos}{cx:Nat} (hk:xl k=true) (hk':xl k'=true) (hg:k8 sc "isinstance"=true) (hx:isStarred x=false) (hc:uw N sc [k,k'] ys=true) (ha:qb G C d sc Γ a x) :
  qb G C d sc Γ (.isinst a [k,k']) (.Call (.Name "isinstance" np) [x,.Tuple ys cx tp] [] pos):=by
 intro t st s env loc X st' A hA hsc F R e Q E q
 rw [tl] at e
 obtain ⟨V,s1,e1,e⟩:=Res.bind_ok e
 unfold okB at e
 split at e
 ·rename_i b hb
  obtain ⟨rfl,rfl⟩:X=.bool b∧st'=s1:=by cases e; exact ⟨rfl,rfl⟩
  have hu:∀ z∈[k,k'],xl z=true:=by intro z hz; simp at hz; rcases hz with rfl | rfl <;> assumption
  obtain ⟨b0,hb0⟩:∃ b0,b8 G.P st' V k=some b0:=by
   simp only [wy] at hb
   cases z:b8 G.P st' V k with
   | none=>rw [z] at hb; exact za hb
   | some b'=>exact ⟨b',rfl⟩
  obtain ⟨g,g1,g2⟩:=b5 hk hb0
  refine wpAny_Call_ofName (xd (v:=.builtin "isinstance") O F R hsc hg (by decide) (by decide +kernel) ?_)
  refine callWith_of (P:=G.K.In) (by rw [yk pos env (m:=[x,.Tuple ys cx tp]) (by show (!isStarred x && (!false && true))=true; rw [hx]; rfl)]; rfl) (gy _) (zan hx rfl ?_)
  refine ha t st s env loc _ _ A hA hsc F R e1 _ _ fun v t1 σ1 S1 R1 r1=>?_
  refine wpAny_Tuple (dl O hsc _ hu hc (F.step R S1) R1 ⟨by rw [List.length_map,sizeLine_eq]; exact Nat.le_of_ble_eq_true rfl,?_⟩)
  have R2:=R1.push { cls:=.type "tuple",data:=.seq ([k,k'].map fun k=>Value.type (yw k)).toArray }
  have S2:=Step.push R1 { cls:=.type "tuple",data:=.seq ([k,k'].map fun k=>Value.type (yw k)).toArray }
  have XK:=O.K.keeps R2.base
  refine ⟨XK,?_⟩
  obtain ⟨H,Z,hH,hne⟩:=zeb R2 (VRel.step S2 (fun _ z=>z.elim) _ r1) g1
  exact kia_tup Z XK hH (Heap.get?_push_size _ rfl) (p6 G.K hu g1 hb) hne fun tk=>q _ t1 _ ((S1.trans S2).trans (Step.toks _ _ _ tk)) (R2.toks tk) rfl
 ·exact zd e
end
end Mine
end
section
set_option maxRecDepth 100000
namespace Mine
open PySem PySem.W PyProof.Rows
section
variable {G:Gd}{N:Names}{C:Calls}{d:Dp}{sc:Sc}{Γ:Gam}{A:Around}{t:Tie}{st st':MS}{s:Shared}{env:Env}{loc:Loc}{X Y Z:V}{v w:Value}
theorem zbz (k k':PySem.Str) (u y:Value) (r:List (PySem.Str×Value)) (h:k'≠k):stored ((k',u) :: r) k y=(k',u) :: stored r k y:=by
 unfold stored
 simp only [List.any_cons,h,decide_false,Bool.false_or,List.map_cons,if_false]
 split <;> rfl
theorem zbf (k:PySem.Str) (u y:Value) (r:List (PySem.Str×Value)) (h:k ∉ r.map (·.1)):stored ((k,u) :: r) k y=(k,y) :: r:=by
 unfold stored
 simp only [List.any_cons,decide_true,Bool.true_or,if_true,List.map_cons]
 congr 1
 conv=>rhs; rw [← List.map_id r]
 refine List.map_congr_left fun p hp=>?_
 rw [if_neg (fun z=>h (List.mem_map.mpr ⟨p,hp,z⟩))]; rfl
theorem zgw {a b:List Nat} (h:qh a=qh b):a=b:=by
 have:=congrArg (fun z=>z.cps.toList) h
 simpa [qh] using this
theorem DRel.put {h:Heap}{x:List Nat}{y:Value}:∀ {dd:List (V×V)}{kvs:List (PySem.Str×Value)},DRel t h dd kvs→(kvs.map (·.1)).Nodup→VRel t h Y y→DRel t h (m4 (.str x) Y dd) (stored kvs (qh x) y)
 | [],_,e,_,r=>by cases e; exact ⟨x,y,[],rfl,rfl,r,rfl⟩
 | (k,u) :: r,_,⟨z,y',rest,e1,e2,e3,e4⟩,nd,ry=>by
  subst e1; subst e2
  rw [List.map_cons,List.nodup_cons] at nd
  by_cases q:z=x
  ·subst q
   rw [zbf _ _ _ _ nd.1]
   have hh:m4 (.str z) Y ((V.str z,u) :: r)=(V.str z,Y) :: r:=if_pos (decide_eq_true rfl)
   rw [hh]
   exact ⟨z,y,rest,rfl,rfl,ry,e4⟩
  ·have q':qh z≠qh x:=fun e=>q (zgw e)
   rw [zbz _ _ _ _ _ q']
   have hh:m4 (.str x) Y ((V.str z,u) :: r)=(V.str z,u) :: m4 (.str x) Y r:=if_neg (by rw [show cr (V.str z) (V.str x)=decide (z=x) from rfl,decide_eq_false q]; exact Bool.false_ne_true)
   rw [hh]
   exact ⟨z,y',_,rfl,rfl,e3,DRel.put e4 nd.2 ry⟩
theorem DRel.length {h:Heap}:∀ {dd:List (V×V)}{kvs:List (PySem.Str×Value)},DRel t h dd kvs→kvs.length=dd.length
 | [],_,e=>by cases e; rfl
 | (k,u) :: r,_,⟨z,y',rest,e1,e2,e3,e4⟩=>by subst e2; simp [DRel.length e4]
theorem zam {h:Heap}{a:Addr}{kvs:List (PySem.Str×Value)} (hd:h.DictOf (strKind G.prog G.w) a kvs):(h.get? a).isSome=true:=by
 obtain ⟨o,es,ep,ho,_⟩:=hd; rw [ho]; rfl
theorem zk4 {U:V}{u:Value}{r:Unit} (R:Rel G t st s) (hX:VRel t s.heap X v) (hY:VRel t s.heap Y w) (hU:VRel t s.heap U u) (e:(match dictAt X st with
  | some p=>if Y.isKey∧p.2.length < zf then Res.ok () (st.put p.1 (.dict (m4 Y U p.2))) else .stuck
  | Option.none=>.stuck)=.ok r st'):Sim G A t s (PySem.setItem v w u) st' (fun _ _ _=>True):=by
 obtain ⟨p,hp,e⟩:=zpg e
 obtain ⟨hk,e⟩:=jw e
 obtain ⟨rfl,rfl⟩:=jx e
 obtain ⟨a,kvs,rfl,h1,h2,h3,h4⟩:=um R hX hp
 obtain ⟨x,rfl⟩:=og hk.1
 obtain ⟨k,rfl⟩:=hY
 intro Q E q
 have nd:(kvs.map (·.1)).Nodup:=let ⟨o,es,ep,a1,a2,a3,a4,a5,a6⟩:=h2; a6
 refine wpAny_setItem_pairs (strKind_is G.prog G.w (qh x) k) h2 (fun h' hd hs=>?_) (by rw [h3.length]; exact Nat.le_of_lt hk.2)
 have hl:=zam hd
 have S:=Step.upd (t:=t) (s:=s) (tk:=s.toks + 1) ⟨p.1,.inl h1⟩ hl hs
 exact q _ t.tick _ S (R.upd (l:=p.1) (.inl h1) hl hs (by rw [h4]; exact fun z=>za z.symm) ⟨a,_,h1,hd,DRel.step S (fun _ z=>z.elim) (DRel.put h3 nd hU)⟩) trivial
theorem br {U:V}{u:Value}{r:Unit} (R:Rel G t st s) (hX:VRel t s.heap X v) (hY:VRel t s.heap Y w) (hU:VRel t s.heap U u) (e:setItem X Y U st=.ok r st'):Sim G A t s (PySem.setItem v w u) st' (fun _ _ _=>True):=by
 exact zk4 R hX hY hU e
theorem zgz (O:G.Ok N) {kd:Nat}{pos:Pos}:qb G C d sc Γ (.dictM kd [] []) (.Dict [] [] pos):=by
 intro t st s env loc X st' A hA hsc F R e Q E k
 simp only [zlt,sf,ym,Res.bind] at e
 rw [if_pos ⟨rfl,by decide,List.nodup_nil⟩] at e
 obtain ⟨rfl,rfl⟩:X=.ref (kd,st.cnt kd)∧st'=st.new kd (.dict []):=by cases e; exact ⟨rfl,rfl⟩
 refine wpAny_Dict_empty ?_
 have hk:∀ b o,s.heap.get? b=some o→(s.heap.push ({ cls:=.type "dict",data:=.dict #[] }:Obj)).get? b=some o:=fun _ _ e=>Heap.get?_push_of_some _ e
 have S:=Step.bind (k:=kd) (d:=none) (s':={ s with heap:=s.heap.push { cls:=.type "dict",data:=.dict #[] } }) R hk rfl rfl (qv _) (fun x e=>by exact za e)
 have rho:(t.bind (kd,st.cnt kd) s.heap.objs.size none).ρ (kd,st.cnt kd)=some s.heap.objs.size:=by simp [Tie.bind]
 refine k _ _ _ S (Rel.bind R hk rfl rfl (qv _) (fun x e=>by exact za e) ?_ (R.size_sys O) ⟨_,[],rho,?_,rfl⟩) ⟨_,rfl,rho⟩
 ·show ((s.heap.push _).get? _).isSome=true; rw [Heap.get?_push_size _ rfl]; rfl
 ·exact Heap.DictOf.new _
end
end Mine
end
section
set_option maxRecDepth 100000
namespace Mine
open PySem PySem.W PyProof.Rows
section
variable {G:Gd}{N:Names}{C:Calls}{d:Dp}{sc:Sc}{Γ:Gam}{A:Around}{t:Tie}{st st':MS}{s:Shared}{env:Env}{loc:Loc}{X Y Z:V}{v w:Value}
theorem Rel.hideGrow (R:Rel G t st s) {s':Shared}{P:Addr→Prop}{l₁:List Env} (np:∀ a,P a→s.heap.get? a=none) (hk:∀ b o,s.heap.get? b=some o→s'.heap.get? b=some o) (hl:∀ a,P a→(s'.heap.get? a).isSome=true) (hg:s'.gens=s.gens) (ho:s'.os=s.os) :
  Rel G (t.hideS P l₁) st s' where
 base b o e:=hk b o (R.base b o e)
 apart a q:=by
  rcases q with q | q | q
  ·exact R.apart a (.inl q)
  ·exact R.apart a (.inr q)
  ·cases z:G.h₀.get? a with
   | none=>rfl
   | some o=>have:=R.base a o z; rw [np a q] at this; exact za this
 live a q:=by
  have old:t.Avoid a→(s'.heap.get? a).isSome=true:=fun q=>by obtain ⟨o,e⟩:=Option.isSome_iff_exists.mp (R.live a q); rw [hk a o e]; rfl
  rcases q with q | q | q
  ·exact old (.inl q)
  ·exact old (.inr q)
  ·exact hl a q
 pv a q o:=by
  rcases q with q | q
  ·exact R.pv a q o
  ·have:=R.live a (.inl o); rw [np a q] at this; exact qg this
 injρ:=R.injρ
 injδ:=R.injδ
 two:=R.two
 objs l o e:=by
  have S:Step noX (t.hideS P l₁) (t.hideS P l₁) s s':=⟨.refl _,fun a o e _ _ _=>hk a o e,fun a o e _ _ _=>⟨o.slots,hk a o e⟩,fun _ o=>.inl o,fun a o e=>by rw [hk a o e]; rfl,hg,ho⟩
  exact (ObjOk.map (t:=t) (t':=t.hideS P l₁) (fun _ _ e=>e) (fun _ _ e=>e) (Tie.hid np) (fun _ _ _ e=>e) (R.objs l o e)).step S (fun _ x=>x.elim) fun a o _ e=>hk a o e
 cnt:=R.cnt
 sys:=R.sys
 wr:=R.wr
set_option genCtorIdx false in
structure Forget (P L:Addr→Prop) (t₁ t₂:Tie) (s₁ s₂:Shared):Prop where
 ρ:t₂.ρ=t₁.ρ
 δ:t₂.δ=t₁.δ
 pv:∀ a,t₂.pv a→t₁.pv a∧¬ P a
 hP:∀ a,P a→t₁.pv a
 hL:∀ a,L a→t₁.pv a∧(s₂.heap.get? a).isSome=true
 keep:∀ b o,¬ P b→¬ L b→s₁.heap.get? b=some o→s₂.heap.get? b=some o
 gens:s₂.gens=s₁.gens
 os:s₂.os=s₁.os
 wr:t₂.wr=t₁.wr
theorem Forget.own {P L:Addr→Prop}{t₁ t₂:Tie}{s₁ s₂:Shared} (F:Forget P L t₁ t₂ s₁ s₂) {a:Addr}:t₂.Own a ↔ t₁.Own a:=by
 unfold Tie.Own; rw [F.ρ,F.δ]
theorem Forget.avoid {P L:Addr→Prop}{t₁ t₂:Tie}{s₁ s₂:Shared} (F:Forget P L t₁ t₂ s₁ s₂) {a:Addr} (h:¬ t₁.Avoid a):¬ t₂.Avoid a:=fun q=>h (q.imp F.own.mp fun z=>(F.pv a z).1)
theorem Forget.val {P L:Addr→Prop}{t₁ t₂:Tie}{s₁ s₂:Shared} (F:Forget P L t₁ t₂ s₁ s₂) (a:Addr) (o:Obj) (na:¬ t₁.Avoid a) (ho:s₁.heap.get? a=some o):s₂.heap.get? a=some o∧¬ t₂.Avoid a :=
 ⟨F.keep _ _ (fun q=>na (.inr (F.hP a q))) (fun q=>na (.inr (F.hL a q).1)) ho,F.avoid na⟩
theorem VRel.forget {P L:Addr→Prop}{t₁ t₂:Tie}{s₁ s₂:Shared} (F:Forget P L t₁ t₂ s₁ s₂) (x:V) {v:Value} (r:VRel t₁ s₁.heap x v):VRel t₂ s₂.heap x v:=VRel.map (fun _ _ e=>by rw [F.ρ]; exact e) F.val x r
theorem VRels.forget {P L:Addr→Prop}{t₁ t₂:Tie}{s₁ s₂:Shared} (F:Forget P L t₁ t₂ s₁ s₂) (l:List V) {vs:List Value} (r:VRels t₁ s₁.heap l vs):VRels t₂ s₂.heap l vs:=VRels.map (fun _ _ e=>by rw [F.ρ]; exact e) F.val l r
theorem Rel.forget {P L:Addr→Prop}{t₁ t₂:Tie}{s₁ s₂:Shared} (F:Forget P L t₁ t₂ s₁ s₂) (R:Rel G t₁ st s₁):Rel G t₂ st s₂:=by
 have nP:∀ {a},t₁.Own a→¬ P a:=fun {a} o q=>R.pv a (F.hP a q) o
 have nL:∀ {a},t₁.Own a→¬ L a:=fun {a} o q=>R.pv a (F.hL a q).1 o
 have up:∀ {a},t₂.Avoid a→t₁.Avoid a∧¬ P a:=fun {a} q=>q.elim (fun q=>⟨.inl (F.own.mp q),nP (F.own.mp q)⟩) fun q=>⟨.inr (F.pv a q).1,(F.pv a q).2⟩
 refine ⟨fun b o e=>F.keep b o (fun q=>?_) (fun q=>?_) (R.base b o e),fun a q=>R.apart a (up q).1,fun a q=>?_,fun a q o=>R.pv a (F.pv a q).1 (F.own.mp o),?_,?_,?_,?_,?_,?_,F.wr.trans R.wr⟩
 ·rw [R.apart b (.inr (F.hP b q))] at e; exact za e
 ·rw [R.apart b (.inr (F.hL b q).1)] at e; exact za e
 ·by_cases ql:L a
  ·exact (F.hL a ql).2
  ·obtain ⟨o,e⟩:=Option.isSome_iff_exists.mp (R.live a (up q).1)
   rw [F.keep a o (up q).2 ql e]; rfl
 ·rw [F.ρ]; exact R.injρ
 ·rw [F.δ]; exact R.injδ
 ·rw [F.ρ,F.δ]; exact R.two
 ·intro l o e
  exact ObjOk.map (fun _ _ e=>by rw [F.ρ]; exact e) (fun _ _ e=>by rw [F.δ]; exact e) F.val (fun a ob q e=>F.keep a ob (nP ⟨l,q⟩) (nL ⟨l,q⟩) e) (R.objs l o e)
 ·rw [F.ρ,F.δ]; exact R.cnt
 ·rw [F.ρ]; exact R.sys
theorem Step.unhideS {P X L:Addr→Prop}{t₁:Tie}{s₀ s₁ s₂:Shared}{l:List Env} (hl:∀ e,e∈l→e∈t.st∨∀ a,e.frame=some a→P a) (hl':∀ e,e∈t.st→e∈l) (hX:∀ a,X a→P a∨L a) (np:∀ a,P a→s.heap.get? a=none) (hk:∀ b o,s.heap.get? b=some o→s₀.heap.get? b=some o) (hg:s₀.gens=s.gens) (ho:s₀.os=s.os)
  (S:Step X (t.hideS P l) t₁ s₀ s₁) (F:Forget P L t₁ { t₁ with pv:=t.pv,st:=t.st } s₁ s₂):Step L t { t₁ with pv:=t.pv,st:=t.st } s s₂ where
 le:=⟨S.le.ρ,S.le.δ,rfl,S.le.wr,rfl⟩
 slots a o e n nl f:=by
  have nP:¬ P a:=fun q=>by rw [np a q] at e; exact za e
  obtain ⟨sl,e1⟩:=S.slots a o (hk a o e) n (fun q=>(hX a q).elim nP nl) ⟨.inl f.1,let ⟨e,h1,h2⟩:=f.2; ⟨e,hl' e h1,h2⟩⟩
  exact ⟨sl,F.keep a _ nP nl e1⟩
 keepW a o e n nl nf:=by
  have nP:¬ P a:=fun q=>by rw [np a q] at e; exact za e
  exact F.keep a o nP nl (S.keepW a o (hk a o e) n (fun q=>(hX a q).elim nP nl) fun q=>let ⟨e,h1,h2⟩:=q.2; nf ⟨q.1.elim id fun q=>(nP q).elim,e,(hl e h1).resolve_right fun z=>nP (z a h2),h2⟩)
 new a o:=by
  rcases S.new a o with q | q
  ·exact .inl q
  ·right
   cases z:s.heap.get? a with
   | none=>rfl
   | some ob=>rw [hk a ob z] at q; cases q
 live a o e:=by
  have nP:¬ P a:=fun q=>by rw [np a q] at e; exact za e
  by_cases ql:L a
  ·exact (F.hL a ql).2
  ·obtain ⟨o',e'⟩:=Option.isSome_iff_exists.mp (S.live a o (hk a o e))
   rw [F.keep a o' nP ql e']; rfl
 gens:=F.gens.trans (S.gens.trans hg)
 os:=F.os.trans (S.os.trans ho)
theorem Step.unhide {P X L:Addr→Prop}{t₁:Tie}{s₀ s₁ s₂:Shared} (hX:∀ a,X a→P a∨L a) (np:∀ a,P a→s.heap.get? a=none) (hk:∀ b o,s.heap.get? b=some o→s₀.heap.get? b=some o) (hg:s₀.gens=s.gens) (ho:s₀.os=s.os)
  (S:Step X (t.hide P) t₁ s₀ s₁) (F:Forget P L t₁ { t₁ with pv:=t.pv,st:=t.st } s₁ s₂):Step L t { t₁ with pv:=t.pv,st:=t.st } s s₂ :=
 Step.unhideS (l:=t.st) (fun _ h=>.inl h) (fun _ h=>h) hX np hk hg ho S F
theorem Step.priv {a:Addr}{h':Heap}{tk:Nat}{X:Addr→Prop} (hX:X a) (hl:(h'.get? a).isSome=true) (hs:Heap.SameBut a s.heap h'):Step X t t s { s with heap:=h',toks:=tk } :=
 ⟨.refl t,fun b o e _ nx _=>(hs.2 b fun (q:b=a)=>nx (q ▸ hX)).trans e,fun b o e _ nx _=>⟨o.slots,(hs.2 b fun (q:b=a)=>nx (q ▸ hX)).trans e⟩,fun _ o=>.inl o,fun b o e=>by
  by_cases q:b=a
  ·subst q; exact hl
  ·show (h'.get? b).isSome=true; rw [hs.2 b q,e]; rfl,rfl,rfl⟩
theorem Rel.priv (R:Rel G t st s) {a:Addr}{h':Heap}{tk:Nat} (hp:t.pv a) (hl:(h'.get? a).isSome=true) (hs:Heap.SameBut a s.heap h'):Rel G t st { s with heap:=h',toks:=tk }:=by
 have S:Step (·=a) t t s { s with heap:=h',toks:=tk }:=Step.priv rfl hl hs
 have hp':∀ b,b=a→t.pv b:=fun b z=>by rw [z]; exact hp
 refine ⟨fun b o e=>(hs.2 b fun (q:b=a)=>?_).trans (R.base b o e),R.apart,fun b q=>?_,R.pv,R.injρ,R.injδ,R.two,fun l o e=>(R.objs l o e).step S hp' fun b ob hb eb=>(hs.2 b fun (q:b=a)=>?_).trans eb,R.cnt,R.sys,R.wr⟩
 ·rw [q,R.apart a (.inr hp)] at e; exact za e
 ·by_cases z:b=a
  ·subst z; exact hl
  ·show (h'.get? b).isSome=true; rw [hs.2 b z]; exact R.live b q
 ·subst q; exact R.pv b hp ⟨l,hb⟩
noncomputable def Tie.adopt (t:Tie) (l:Lbl) (D:Addr) (pv':Addr→Prop):Tie:=⟨fun x=>if x=l then some D else t.ρ x,fun x=>if x=l then none else t.δ x,pv',t.wr,t.st⟩
theorem Rel.adopt (R:Rel G t st s) {D:Addr}{k:Nat}{o:MObj}{pv':Addr→Prop} (pD:t.pv D) (hpv:∀ a,t.pv a ↔ pv' a∨a=D) (nD:¬ pv' D) (hsys:D≠sysModules)
  (hO:(∀ (X:V) (v:Value),VRel t s.heap X v→VRel (t.adopt (k,st.cnt k) D pv') s.heap X v)→ObjOk G (t.adopt (k,st.cnt k) D pv') s.heap (k,st.cnt k) o) :
  Rel G (t.adopt (k,st.cnt k) D pv') (st.new k o) s∧(∀ l a,t.ρ l=some a→(t.adopt (k,st.cnt k) D pv').ρ l=some a) ∧
   (∀ a o,¬ t.Avoid a→s.heap.get? a=some o→s.heap.get? a=some o∧¬ Tie.Avoid (t.adopt (k,st.cnt k) D pv') a):=by
 obtain ⟨c1,c2,c3⟩:=R.cnt k _ (Nat.le_refl _)
 have hρ:∀ l a,t.ρ l=some a→(t.adopt (k,st.cnt k) D pv').ρ l=some a:=fun l a e=>by
  show (if l=(k,st.cnt k) then some D else t.ρ l)=some a
  rw [if_neg (fun q=>by rw [q,c1] at e; exact za e)]; exact e
 have hδ:∀ l a,t.δ l=some a→(t.adopt (k,st.cnt k) D pv').δ l=some a:=fun l a e=>by
  show (if l=(k,st.cnt k) then none else t.δ l)=some a
  rw [if_neg (fun q=>by rw [q,c2] at e; exact za e)]; exact e
 have nr:∀ {l:Lbl}{b:Addr},(t.adopt (k,st.cnt k) D pv').ρ l=some b→(l=(k,st.cnt k)∧b=D)∨(l≠(k,st.cnt k)∧t.ρ l=some b):=fun {l b} e=>by
  change (if l=(k,st.cnt k) then some D else t.ρ l)=some b at e
  split at e
  ·rename_i q; cases e; exact .inl ⟨q,rfl⟩
  ·rename_i q; exact .inr ⟨q,e⟩
 have nd:∀ {l:Lbl}{b:Addr},(t.adopt (k,st.cnt k) D pv').δ l=some b→t.δ l=some b:=fun {l b} e=>by
  change (if l=(k,st.cnt k) then none else t.δ l)=some b at e
  split at e
  ·exact za e
  ·exact e
 have nO:=R.pv D pD
 have up:∀ a,Tie.Avoid (t.adopt (k,st.cnt k) D pv') a→t.Avoid a:=by
  rintro a (⟨l,e | e⟩ | e)
  ·rcases nr e with ⟨_,rfl⟩ | ⟨_,e⟩
   ·exact .inr pD
   ·exact .inl ⟨l,.inl e⟩
  ·exact .inl ⟨l,.inr (nd e)⟩
  ·exact .inr ((hpv a).2 (.inl e))
 have kp:∀ a o,¬ t.Avoid a→s.heap.get? a=some o→s.heap.get? a=some o∧¬ Tie.Avoid (t.adopt (k,st.cnt k) D pv') a:=fun a o na e=>⟨e,fun q=>na (up a q)⟩
 refine ⟨⟨R.base,fun a q=>R.apart a (up a q),fun a q=>R.live a (up a q),?_,?_,?_,?_,?_,?_,fun l e=>?_,R.wr⟩,hρ,kp⟩
 ·rintro a q ⟨l,e | e⟩
  ·rcases nr e with ⟨_,rfl⟩ | ⟨_,e⟩
   ·exact nD q
   ·exact R.pv a ((hpv a).2 (.inl q)) ⟨l,.inl e⟩
  ·exact R.pv a ((hpv a).2 (.inl q)) ⟨l,.inr (nd e)⟩
 ·intro l l' b e e'
  rcases nr e with ⟨q1,z1⟩ | ⟨_,e1⟩ <;> rcases nr e' with ⟨q,z⟩ | ⟨_,e2⟩
  ·exact q1.trans q.symm
  ·exact (nO ⟨l',.inl (z1 ▸ e2)⟩).elim
  ·exact (nO ⟨l,.inl (z ▸ e1)⟩).elim
  ·exact R.injρ l l' b e1 e2
 ·exact fun l l' b e e'=>R.injδ l l' b (nd e) (nd e')
 ·intro l l' b e e'
  rcases nr e with ⟨_,z⟩ | ⟨_,e⟩
  ·exact nO ⟨l',.inr (z ▸ nd e')⟩
  ·exact R.two l l' b e (nd e')
 ·intro l o' e
  change (if l=(k,st.cnt k) then some o else st.heap l)=some o' at e
  split at e
  ·rename_i q; cases e; subst q
   exact hO fun X v r=>VRel.map hρ kp X r
  ·exact ObjOk.map (t:=t) (t':=t.adopt (k,st.cnt k) D pv') hρ hδ kp (fun _ _ _ e=>e) (R.objs l o' e)
 ·intro k' i e
  change (if k'=k then st.cnt k + 1 else st.cnt k')≤i at e
  have ne:(k',i)≠(k,st.cnt k):=fun q=>by cases q; rw [if_pos rfl] at e; lia
  have le:st.cnt k'≤i:=by
   by_cases q:k'=k
   ·subst q; rw [if_pos rfl] at e; lia
   ·rw [if_neg q] at e; exact e
  obtain ⟨d1,d2,d3⟩:=R.cnt k' i le
  exact ⟨(if_neg ne).trans d1,(if_neg ne).trans d2,(if_neg ne).trans d3⟩
 ·rcases nr e with ⟨_,z⟩ | ⟨_,z⟩
  ·exact hsys z.symm
  ·exact R.sys l z
theorem Step.own {X:Addr→Prop}{t':Tie}{s':Shared} (S:Step X t t' s s') {D:Addr}{l:Lbl} (hD:s.heap.get? D=none) (hl:t'.ρ l=none) (hl2:t'.δ l=none):Step X t (t'.adopt l D t'.pv) s s' where
 le:=⟨fun x a e=>by
   have e:=S.le.ρ x a e
   show (if x=l then some D else t'.ρ x)=some a
   rw [if_neg (fun q=>by rw [q,hl] at e; exact za e)]; exact e,fun x a e=>by
   have e:=S.le.δ x a e
   show (if x=l then none else t'.δ x)=some a
   rw [if_neg (fun q=>by rw [q,hl2] at e; exact za e)]; exact e,S.le.pv,S.le.wr,S.le.st⟩
 keepW:=S.keepW
 slots:=S.slots
 new a:=by
  rintro ⟨x,e | e⟩
  ·change (if x=l then some D else t'.ρ x)=some a at e
   split at e
   ·cases e; exact .inr hD
   ·exact S.new a ⟨x,.inl e⟩
  ·change (if x=l then none else t'.δ x)=some a at e
   split at e
   ·exact za e
   ·exact S.new a ⟨x,.inr e⟩
 live:=S.live
 gens:=S.gens
 os:=S.os
end
end Mine
end
section
set_option maxRecDepth 100000
namespace Mine
open PySem PySem.W PyProof.Rows
section
variable {G:Gd}{N:Names}{C:Calls}{d:Dp}{sc:Sc}{Γ:Gam}{A:Around}{t:Tie}{st st':MS}{s:Shared}{env:Env}{loc:Loc}{X Y Z:V}{v w:Value}
noncomputable def ItQ (st₀:MS) (t:Tie) (s:Shared) (I:Addr) (src:V) (i:Nat):Prop :=
 ∃ (k:Bool) (l:List V) (a:Addr),zv st₀ src=some (k,l)∧VRel t s.heap src (.ref a)∧(if k=true then s.heap.IsListIter I a i else s.heap.IsTupleIter I a i)
noncomputable def ItD (G:Gd) (st₀:MS) (t:Tie) (s:Shared) (I:Addr) (src:V) (i:Nat):Prop :=
 ∃ (r:Lbl) (dd:List (V×V)) (a:Addr) (kvs:List (PySem.Str×Value)) (ep:Nat),src=.ref r∧dictAt src st₀=some (r,dd)∧t.ρ r=some a∧(∀ j:Nat,∀ x,(dd.map (·.1))[j]?=some x→∃ y v,x=.str y∧kvs[j]?=some (qh y,v))∧kvs.length=dd.length∧a≠I∧st₀.wr≤t.wr∧s.heap.IsKeyIter I a i kvs.length ep ∧
  (t.wr=st₀.wr→s.heap.DictAt (strKind G.prog G.w) a kvs ep)
noncomputable def ItS (s:Shared) (I:Addr) (src:V) (i:Nat):Prop :=
 ∃ (x:List Nat) (tk:Tok),src=.str x∧s.heap.IsStrIter I "str_ascii_iterator" (qh x) tk i
noncomputable def ItOk (G:Gd) (st₀:MS) (t:Tie) (s:Shared) (I:Addr) (range:Bool) (src:V) (i:Nat):Prop :=
 match range with
 | true=>∃ n:Int,src=.int n∧IsRangeIter s.heap I i ((n.toNat:Int) - i) 1
 | false=>ItQ st₀ t s I src i∨ItD G st₀ t s I src i∨ItS s I src i
noncomputable abbrev i5 (I:Addr) (s s':Shared):Prop:=∀ o,s.heap.get? I=some o→s'.heap.get? I=some o
theorem ItQ.step {st₀:MS}{I:Addr}{src:V}{i:Nat}{X:Addr→Prop}{t':Tie}{s':Shared} (h:ItQ st₀ t s I src i) (S:Step X t t' s s') (xp:∀ a,X a→t.pv a) (hk:i5 I s s'):ItQ st₀ t' s' I src i:=by
 obtain ⟨k,l,a,e,r,h⟩:=h
 refine ⟨k,l,a,e,VRel.step S xp _ r,?_⟩
 cases k with
 | true=>exact Exists.elim (show s.heap.IsListIter I a i from h) fun o h=>(⟨o,hk o h.1,h.2⟩:s'.heap.IsListIter I a i)
 | false=>exact Exists.elim (show s.heap.IsTupleIter I a i from h) fun o h=>(⟨o,hk o h.1,h.2⟩:s'.heap.IsTupleIter I a i)
theorem zv0 {a b c:Nat} (h1:a≤b) (h2:b≤c) (q:c=a):c=b∧b=a:=by subst q; exact ⟨Nat.le_antisymm h1 h2,Nat.le_antisymm h2 h1⟩
theorem ItD.step {st₀:MS}{I:Addr}{src:V}{i:Nat}{X:Addr→Prop}{t':Tie}{s':Shared} (h:ItD G st₀ t s I src i) (S:Step X t t' s s') (xp:∀ a,X a→t.pv a) (hp:∀ a,t.pv a→¬ t.Own a) (hk:i5 I s s'):ItD G st₀ t' s' I src i:=by
 obtain ⟨r,dd,a,kvs,ep,e1,e2,ea,e3,e4,e5,e6,⟨o,h1,h2⟩,e8⟩:=h
 refine ⟨r,dd,a,kvs,ep,e1,e2,S.le.ρ _ _ ea,e3,e4,e5,Nat.le_trans e6 S.le.wr,⟨o,hk o h1,h2⟩,fun q=>?_⟩
 have hw:=zv0 e6 S.le.wr q
 obtain ⟨od,es,q1,q2⟩:=e8 hw.2
 exact ⟨od,es,S.keepW _ _ q1 (fun _=>hw.1) (fun hx=>hp a (xp a hx) ⟨r,.inl ea⟩) (fun f=>hp a f.1 ⟨r,.inl ea⟩),q2⟩
theorem ItS.step {I:Addr}{src:V}{i:Nat}{s':Shared} (h:ItS s I src i) (hk:i5 I s s'):ItS s' I src i:=by
 obtain ⟨x,tk,e1,o,h1,h2⟩:=h
 exact ⟨x,tk,e1,o,hk o h1,h2⟩
theorem ItOk.step {st₀:MS}{I:Addr}{range:Bool}{src:V}{i:Nat}{X:Addr→Prop}{t':Tie}{s':Shared} (h:ItOk G st₀ t s I range src i) (S:Step X t t' s s') (xp:∀ a,X a→t.pv a) (hp:∀ a,t.pv a→¬ t.Own a) (pI:t.pv I) (hX:¬ X I) (nF:¬ t.Fr I):ItOk G st₀ t' s' I range src i:=by
 have hk:i5 I s s':=fun o h=>S.keep _ _ h (hp I pI) hX nF
 cases range with
 | true =>
  obtain ⟨n,e,h⟩:=h
  exact ⟨n,e,hk _ h⟩
 | false=>exact h.imp (fun h=>h.step S xp hk) fun h=>h.imp (fun h=>h.step S xp hp hk) fun h=>h.step hk
theorem mh {st₀ st:MS}{src:V} (h:stays st₀ st false src=true):zv st src=zv st₀ src:=by
 cases src with
 | ref r =>
  have h:st₀.heap r=st.heap r:=of_decide_eq_true (Bool.and_eq_true_iff.1 h).1
  show (match st.heap r with | some (.list l)=>some (true,l) | _=>none)=(match st₀.heap r with | some (.list l)=>some (true,l) | _=>none)
  rw [h]
 | _=>rfl
theorem fk {st:MS}{src:V}{p:Bool×List V} (h:zv st src=some p):dictAt src st=none:=by
 cases src with
 | ref r =>
  show (match st.heap r with | some (.dict l)=>some (r,l) | _=>none)=none
  have h:(match st.heap r with | some (.list l)=>some (true,l) | _=>none)=some p:=h
  cases e:st.heap r with
  | none=>rfl
  | some o=>rw [e] at h; cases o <;> first | rfl | exact za h
 | _=>rfl
theorem DRel.keyAt {h:Heap}:∀ {dd:List (V×V)}{kvs:List (PySem.Str×Value)},DRel t h dd kvs→∀ (j:Nat) (x:V),(dd.map (·.1))[j]?=some x→∃ y v,x=.str y∧kvs[j]?=some (qh y,v)
 | [],_,_,j,x,e=>by exact za e
 | (k,u) :: r,_,⟨z,y,rest,e1,e2,_,_⟩,0,x,e=>by subst e1 e2; cases e; exact ⟨z,y,rfl,rfl⟩
 | (k,u) :: r,_,⟨z,y,rest,e1,e2,_,e4⟩,j + 1,x,e=>by subst e2; exact DRel.keyAt e4 j x e
theorem ot {st:MS}{src:V}{p:Bool×List V} (h:zv st src=some p):z6 st false src=some p.2:=by
 cases src with
 | str=>exact za h
 | ref r =>
  show (match dictAt (.ref r) st with | some p=>some (p.2.map fun q:V×V=>q.1) | none=>(zv st (.ref r)).map fun q:Bool×List V=>q.2)=_
  rw [fk h,h]; rfl
 | _=>cases h <;> rfl
theorem te {st:MS}{r:Lbl}{p:Lbl×List (V×V)} (h:dictAt (.ref r) st=some p):z6 st false (.ref r)=some (p.2.map (·.1)):=by
 show (match dictAt (.ref r) st with | some p=>some (p.2.map fun q:V×V=>q.1) | none=>(zv st (.ref r)).map fun q:Bool×List V=>q.2)=_
 rw [h]
theorem zb0 {st₀ st:MS}{r:Lbl}{p:Lbl×List (V×V)} (h:stays st₀ st false (.ref r)=true) (hd:dictAt (.ref r) st₀=some p):st₀.wr=st.wr:=by
 have h:((dictAt (.ref r) st₀).isNone || decide (st₀.wr=st.wr))=true:=(Bool.and_eq_true_iff.1 h).2
 rw [hd] at h
 exact of_decide_eq_true h
theorem tx {st:MS}{x:List Nat}{xs:List V} (h:z6 st false (.str x)=some xs):xs=x.map fun c=>V.str [c]:=by
 have h:(if x.all (fun c=>decide (c < 128))=true then some (x.map fun c=>V.str [c]) else none)=some xs:=h
 split at h <;> cases h; rfl
theorem zfp {st:MS}{x:List Nat}{xs:List V} (h:z6 st false (.str x)=some xs):(qh x).cps.all (· < 128)=true:=by
 have h:(if x.all (fun c=>decide (c < 128))=true then some (x.map fun c=>V.str [c]) else none)=some xs:=h
 split at h
 ·rename_i hh; rw [← hh]; simp [qh]
 ·exact za h
theorem zhz {st₀:MS}{I:Addr}{src:V}{i:Nat}{xs:List V}{x:V}{Q:Option Value→Shared→Prop}{E:Value→Shared→Prop} (R:Rel G t st s) (hI:t.pv I) (hx:z6 st₀ false src=some xs) (hs:stays st₀ st false src=true) (h:ItQ st₀ t s I src i) (hi:xs[i]?=some x)
  (q:∀ v h' tk,Step (·=I) t t s { s with heap:=h',toks:=tk }→Rel G t st { s with heap:=h',toks:=tk }→VRel t h' x v→ItOk G st₀ t { s with heap:=h',toks:=tk } I false src (i + 1)→Q (some v) { s with heap:=h',toks:=tk }) :
  wpAny G.M A (pyNext (.ref I)) Q E s:=by
 obtain ⟨k,l,a,e,r,h⟩:=h
 rw [ot e] at hx
 have hx:l=xs:=Option.some.inj hx
 subst hx
 have e':zv st src=some (k,l):=by rw [mh hs,e]
 obtain ⟨a',vs,ea,io,rr,sz⟩:=qo R r e'
 cases ea
 obtain ⟨y,y1,y2⟩:=VRels.get rr hi
 rw [Array.getElem?_toList] at y1
 have xp:∀ b,b=I→t.pv b:=fun b z=>by rw [z]; exact hI
 cases k with
 | true =>
  have h:s.heap.IsListIter I a i:=h
  have io:PL s.heap a vs:=io
  refine wpAny_pyNext_list_item h io.isList y1 fun h' hit hs'=>?_
  have hl:(h'.get? I).isSome=true:=by obtain ⟨o,ho,_⟩:=hit; rw [ho]; rfl
  have S:Step (·=I) t t s { s with heap:=h',toks:=s.toks }:=Step.priv rfl hl hs'
  exact q _ h' s.toks S (R.priv hI hl hs') (VRel.step S xp _ y2) (.inl ⟨true,l,a,e,VRel.step S xp _ r,hit⟩)
 | false =>
  have h:s.heap.IsTupleIter I a i:=h
  have io:PT s.heap a vs:=io
  refine wpAny_pyNext_tuple_item h io.isTuple y1 fun h' hit hs'=>?_
  have hl:(h'.get? I).isSome=true:=by obtain ⟨o,ho,_⟩:=hit; rw [ho]; rfl
  have S:Step (·=I) t t s { s with heap:=h',toks:=s.toks }:=Step.priv rfl hl hs'
  exact q _ h' s.toks S (R.priv hI hl hs') (VRel.step S xp _ y2) (.inl ⟨false,l,a,e,VRel.step S xp _ r,hit⟩)
theorem zg9 {st₀:MS}{I:Addr}{src:V}{i:Nat}{xs:List V}{x:V}{Q:Option Value→Shared→Prop}{E:Value→Shared→Prop} (R:Rel G t st s) (hI:t.pv I) (hx:z6 st₀ false src=some xs) (hs:stays st₀ st false src=true) (h:ItD G st₀ t s I src i) (hi:xs[i]?=some x)
  (q:∀ v h' tk,Step (·=I) t t s { s with heap:=h',toks:=tk }→Rel G t st { s with heap:=h',toks:=tk }→VRel t h' x v→ItOk G st₀ t { s with heap:=h',toks:=tk } I false src (i + 1)→Q (some v) { s with heap:=h',toks:=tk }) :
  wpAny G.M A (pyNext (.ref I)) Q E s:=by
 obtain ⟨r,dd,a,kvs,ep,rfl,e2,ea,e3,e4,e5,e6,e7,e8⟩:=h
 have hw:t.wr=st₀.wr:=R.wr.trans (zb0 hs e2).symm
 rw [te e2] at hx
 cases hx
 obtain ⟨y,v,rfl,hy⟩:=e3 i x hi
 have hd:=e8 hw
 refine wpAny_pyNext_dict_item e7 hd hy fun key h' hk hit hs'=>?_
 have hl:(h'.get? I).isSome=true:=by obtain ⟨o,ho,_⟩:=hit; rw [ho]; rfl
 have S:Step (·=I) t t s { s with heap:=h',toks:=s.toks }:=Step.priv rfl hl hs'
 obtain ⟨tk,rfl⟩:=Value.isStrOf_shape hk
 refine q _ h' s.toks S (R.priv hI hl hs') ⟨tk,rfl⟩ (.inr (.inl ⟨r,dd,a,kvs,ep,rfl,e2,ea,e3,e4,e5,e6,hit,fun _=>?_⟩))
 obtain ⟨od,es,q1,q2⟩:=hd
 exact ⟨od,es,(hs'.2 a e5).trans q1,q2⟩
theorem zh1 {st₀:MS}{I:Addr}{src:V}{i:Nat}{xs:List V}{x:V}{Q:Option Value→Shared→Prop}{E:Value→Shared→Prop} (R:Rel G t st s) (hI:t.pv I) (hx:z6 st₀ false src=some xs) (h:ItS s I src i) (hi:xs[i]?=some x)
  (q:∀ v h' tk,Step (·=I) t t s { s with heap:=h',toks:=tk }→Rel G t st { s with heap:=h',toks:=tk }→VRel t h' x v→ItOk G st₀ t { s with heap:=h',toks:=tk } I false src (i + 1)→Q (some v) { s with heap:=h',toks:=tk }) :
  wpAny G.M A (pyNext (.ref I)) Q E s:=by
 obtain ⟨y,tk,rfl,h⟩:=h
 rw [tx hx,List.getElem?_map] at hi
 obtain ⟨c,hc,rfl⟩:=Option.map_eq_some_iff.1 hi
 refine wpAny_pyNext_ascii_item h (by rw [← hc]; exact List.getElem?_toArray) fun h' hit hs'=>?_
 have hl:(h'.get? I).isSome=true:=by obtain ⟨o,ho,_⟩:=hit; rw [ho]; rfl
 exact q _ h' _ (Step.priv rfl hl hs') (R.priv hI hl hs') ⟨_,rfl⟩ (.inr (.inr ⟨y,tk,rfl,hit⟩))
theorem zei {st₀:MS}{I:Addr}{range:Bool}{src:V}{i:Nat}{xs:List V}{x:V}{Q:Option Value→Shared→Prop}{E:Value→Shared→Prop} (R:Rel G t st s) (hI:t.pv I) (hx:z6 st₀ range src=some xs) (hs:stays st₀ st range src=true) (h:ItOk G st₀ t s I range src i) (hi:xs[i]?=some x)
  (q:∀ v h' tk,Step (·=I) t t s { s with heap:=h',toks:=tk }→Rel G t st { s with heap:=h',toks:=tk }→VRel t h' x v→ItOk G st₀ t { s with heap:=h',toks:=tk } I range src (i + 1)→Q (some v) { s with heap:=h',toks:=tk }) :
  wpAny G.M A (pyNext (.ref I)) Q E s:=by
 cases range with
 | true =>
  obtain ⟨n,rfl,h⟩:=h
  simp only [z6] at hx
  split at hx
  ·cases hx
   have hlt:i < n.toNat:=by
    rw [List.getElem?_map] at hi
    obtain ⟨j,hj,_⟩:=Option.map_eq_some_iff.mp hi
    rw [List.getElem?_eq_some_iff] at hj
    simpa using hj.1
   have hxi:x=.int (i:Int):=by
    rw [List.getElem?_map,List.getElem?_range hlt] at hi
    cases hi; rfl
   subst hxi
   refine wpAny_pyNext_range_item h (by lia) fun h' hit hs'=>?_
   have hl:(h'.get? I).isSome=true:=by rw [hit]; rfl
   refine q _ h' _ (Step.priv rfl hl hs') (R.priv hI hl hs') ⟨_,rfl⟩ ⟨n,rfl,?_⟩
   have e1:((i:Int) + 1)=((i + 1:Nat):Int):=by lia
   have e2:((n.toNat:Int) - i - 1)=((n.toNat:Int) - ((i + 1:Nat):Int)):=by lia
   rw [← e2,← e1]; exact hit
  ·exact za hx
 | false =>
  rcases h with h | h | h
  ·exact zhz R hI hx hs h hi q
  ·exact zg9 R hI hx hs h hi q
  ·exact zh1 R hI hx h hi q
theorem zlf {st₀:MS}{I:Addr}{range:Bool}{src:V}{xs:List V}{Q:Option Value→Shared→Prop}{E:Value→Shared→Prop} (R:Rel G t st s) (hA:A.handled=none) (hx:z6 st₀ range src=some xs) (hs:stays st₀ st range src=true) (h:ItOk G st₀ t s I range src xs.length)
  (q:∀ h' tk,Heap.ExtBut I s.heap h'→Q none { s with heap:=h',toks:=tk }):wpAny G.M A (pyNext (.ref I)) Q E s:=by
 cases range with
 | true =>
  obtain ⟨n,rfl,h⟩:=h
  simp only [z6] at hx
  split at hx
  ·cases hx
   rw [List.length_map,List.length_range] at h
   exact wpAny_pyNext_range_end hA h (by lia) fun h'=>q h' s.toks
  ·exact za hx
 | false =>
  rcases h with ⟨k,l,a,e,r,h⟩ | ⟨r,dd,a,kvs,ep,rfl,e2,ea,e3,e4,e5,e6,e7,e8⟩ | ⟨x,tk,rfl,h⟩
  ·rw [ot e] at hx
   have hx:l=xs:=Option.some.inj hx
   subst hx
   have e':zv st src=some (k,l):=by rw [mh hs,e]
   obtain ⟨a',vs,ea,io,rr,sz⟩:=qo R r e'
   cases ea
   have hn:vs[l.length]?=none:=by rw [Array.getElem?_eq_none]; rw [j0 rr]; exact Nat.le_refl _
   cases k with
   | true=>exact wpAny_pyNext_list_end hA (h:s.heap.IsListIter I a _) (show PL s.heap a vs from io).isList hn fun h'=>q h' s.toks
   | false=>exact wpAny_pyNext_tuple_end hA (h:s.heap.IsTupleIter I a _) (show PT s.heap a vs from io).isTuple hn fun h'=>q h' s.toks
  ·have hw:t.wr=st₀.wr:=R.wr.trans (zb0 hs e2).symm
   rw [te e2] at hx
   cases hx
   exact wpAny_pyNext_dict_end hA e7 (e8 hw) (by rw [List.length_map,← e4]; exact List.getElem?_eq_none (Nat.le_refl _)) fun h'=>q h' s.toks
  ·exact wpAny_pyNext_ascii_end hA h (by rw [tx hx,List.length_map]; exact Array.getElem?_eq_none (by simp [qh])) fun h'=>q h' s.toks
theorem zmn {st₀:MS}{I:Addr}{range:Bool}{src:V}{i:Nat}{Q:Value→Shared→Prop}{E:Value→Shared→Prop} (R:Rel G t st₀ s) (hA:A.handled=none) (h:ItOk G st₀ t s I range src i) (q:Q (.ref I) s):wpAny G.M A (pyIter (.ref I)) Q E s:=by
 cases range with
 | true =>
  obtain ⟨n,rfl,h⟩:=h
  refine (Walks.range hA I 0 1 n.toNat).self i s Q E ?_ q
  have e1:(0:Int) + (i:Int) * 1=i:=by lia
  rw [e1]; exact h
 | false =>
  rcases h with ⟨k,l,a,e,r,h⟩ | ⟨r,dd,a,kvs,ep,rfl,e2,ea,e3,e4,e5,e6,e7,e8⟩ | ⟨x,tk,rfl,h⟩
  ·obtain ⟨a',vs,ea,io,rr,sz⟩:=qo R r e
   cases ea
   cases k with
   | true =>
    have h:s.heap.IsListIter I a i:=h
    have io:PL s.heap a vs:=io
    have hne:a≠I:=fun z=>by
     obtain ⟨o,h1,h2,_⟩:=h
     obtain ⟨n,h3⟩:=io
     rw [z,h1] at h3; cases h3; exact absurd (show Value.type "list"=Value.type "list_iterator" from h2) (by decide)
    exact (Walks.list hA I a hne vs).self i s Q E ⟨h,io.isList⟩ q
   | false =>
    have h:s.heap.IsTupleIter I a i:=h
    have io:PT s.heap a vs:=io
    have hne:a≠I:=fun z=>by
     obtain ⟨o,h1,h2,_⟩:=h
     obtain ⟨n,h3⟩:=io
     rw [z,h1] at h3; cases h3; exact absurd (show Value.type "tuple"=Value.type "tuple_iterator" from h2) (by decide)
    exact (Walks.tuple hA I a hne vs).self i s Q E ⟨h,io.isTuple⟩ q
  ·exact wpAny_pyIter_keyiter e7 q
  ·exact wpAny_pyIter_striter_ascii h q
inductive IterAst (sc:Sc):Bool→PySem.Expr→PySem.Expr→Prop
 | plain (j:PySem.Expr):IterAst sc false j j
 | range {rp rpos:Pos}{j:PySem.Expr} (hg:k8 sc "range"=true) (hj:isStarred j=false):IterAst sc true (.Call (.Name "range" rp) [j] [] rpos) j
noncomputable def ItK (G:Gd) (t:Tie) (σ:Shared) (st:MS) (range:Bool) (src:V) (K:Value→Shared→Prop):Prop :=
 ∀ σ2 I,(∀ b o,σ.heap.get? b=some o→σ2.heap.get? b=some o)→σ.heap.get? I=none→(σ2.heap.get? I).isSome=true→σ2.gens=σ.gens→σ2.os=σ.os →
   (∀ (t':Tie) (s':Shared),(∀ a,VRel t σ.heap src (.ref a)→VRel t' s'.heap src (.ref a))→t'.wr=t.wr→(∀ b o,σ2.heap.get? b=some o→s'.heap.get? b=some o)→ItOk G st t' s' I range src 0)→K (.ref I) σ2
theorem ItK.push {range:Bool}{src:V}{K:Value→Shared→Prop} (h:ItK G t s st range src K) (o:Obj) (hf:o.isFreed=false)
  (hi:∀ (t':Tie) (s':Shared),(∀ a,VRel t s.heap src (.ref a)→VRel t' s'.heap src (.ref a))→t'.wr=t.wr→(∀ b o,s.heap.get? b=some o→s'.heap.get? b=some o)→s'.heap.get? s.heap.objs.size=some o→ItOk G st t' s' s.heap.objs.size range src 0) :
  K (.ref s.heap.objs.size) { s with heap:=s.heap.push o } :=
 h _ _ (fun b o e=>Heap.get?_push_of_some _ e) (qv _) (by show (Heap.get? _ _).isSome=true; rw [Heap.get?_push_size _ hf]; rfl) rfl rfl fun t' s' hv hw hs'=>hi t' s' hv hw (fun b o e=>hs' b o (Heap.get?_push_of_some _ e)) (hs' _ _ (Heap.get?_push_size _ hf))
theorem zlc {src:V}{k:Bool}{l:List V}{K E':Value→Shared→Prop} (R:Rel G t st s) (r1:VRel t s.heap src v) (hq:zv st src=some (k,l)) (h:ItK G t s st false src K):wpAny G.M A (pyIter v) K E' s:=by
 obtain ⟨a,vs,rfl,io,rr,sz⟩:=qo R r1 hq
 cases k with
 | true=>exact wpAny_pyIter_list (PL.isList (show PL s.heap a vs from io)) (h.push _ rfl fun t' s' hv _ _ ho=>.inl ⟨true,l,a,hq,hv a r1,(⟨_,ho,rfl,rfl⟩:s'.heap.IsListIter _ a 0)⟩)
 | false=>exact wpAny_pyIter_tuple (PT.isTuple (show PT s.heap a vs from io)) (h.push _ rfl fun t' s' hv _ _ ho=>.inl ⟨false,l,a,hq,hv a r1,(⟨_,ho,rfl,rfl⟩:s'.heap.IsTupleIter _ a 0)⟩)
theorem zf8 {p:Lbl×List (V×V)}{K E':Value→Shared→Prop} (R:Rel G t st s) (r1:VRel t s.heap X v) (hdd:dictAt X st=some p) (h:ItK G t s st false X K):wpAny G.M A (pyIter v) K E' s:=by
 obtain ⟨a,kvs,rfl,h1,h2,h3,h4⟩:=um R r1 hdd
 obtain ⟨ep,hd⟩:=h2.dictAt
 cases (dg hdd).1
 refine wpAny_pyIter_dict (beq_eq_false_iff_ne.2 fun z=>R.sys p.1 (z ▸ h1)) hd (h.push _ rfl fun t' s' hv hw hk ho=>.inr (.inl ⟨p.1,p.2,a,kvs,ep,rfl,hdd,?_,fun j x hj=>h3.keyAt j x hj,h3.length,Nat.ne_of_lt hd.lt_size,?_,⟨_,ho,rfl,rfl⟩,fun _=>hd.keep hk⟩))
 ·obtain ⟨a',q1,q2⟩:=hv a ⟨a,rfl,h1⟩
  cases q1; exact q2
 ·rw [hw]; exact Nat.le_of_eq R.wr.symm
theorem zkh {x:List Nat}{xs:List V}{K E':Value→Shared→Prop} (r1:VRel t s.heap (.str x) v) (hx:z6 st false (.str x)=some xs) (h:ItK G t s st false (.str x) K):wpAny G.M A (pyIter v) K E' s:=by
 obtain ⟨k,rfl⟩:=r1
 exact wpAny_pyIter_ascii (zfp hx) (h.push _ rfl fun t' s' hv _ _ ho=>.inr (.inr ⟨x,k,rfl,_,ho,rfl,rfl⟩))
theorem zkl {r:Lbl}{xs:List V} (hx:z6 st false (.ref r)=some xs) (hq:zv st (.ref r)=none):∃ p,dictAt (.ref r) st=some p:=by
 cases hdd:dictAt (.ref r) st with
 | none =>
  have hx:(match dictAt (.ref r) st with | some p=>some (p.2.map fun q:V×V=>q.1) | none=>(zv st (.ref r)).map fun q:Bool×List V=>q.2)=some xs:=hx
  rw [hdd,hq] at hx; exact za hx
 | some p=>exact ⟨p,rfl⟩
theorem zkq {src:V}{xs:List V}{K E':Value→Shared→Prop} (R:Rel G t st s) (r1:VRel t s.heap src v) (hx:z6 st false src=some xs) (h:ItK G t s st false src K):wpAny G.M A (pyIter v) K E' s:=by
 cases hq:zv st src with
 | some kl=>exact zlc R r1 hq h
 | none =>
  cases src with
  | str x=>exact zkh r1 hx h
  | ref r=>obtain ⟨p,hdd⟩:=zkl hx hq; exact zf8 R r1 hdd h
  | tup=>exact za hq.symm
  | lst=>exact za hq.symm
  | _=>exact za hx
theorem zaf {src:V}{xs:List V} (hx:z6 st true src=some xs):∃ n:Int,src=.int n∧-(2 ^ 62:Int)≤n∧n < (2 ^ 62:Int):=by
 cases src with
 | int n =>
  have hx:(if -1000≤n∧n≤zf then some ((List.range n.toNat).map fun (i:Nat)=>V.int i) else none)=some xs:=hx
  by_cases h:-1000≤n∧n≤zf
  ·exact ⟨n,rfl,Int.le_trans (by decide) h.1,Int.lt_of_le_of_lt h.2 (by decide)⟩
  ·rw [if_neg h] at hx; exact za hx
 | _=>exact za hx
theorem zcy (n:Int):Builtin.Range.rangeSize 0 n 1=(n.toNat:Int) - ((0:Nat):Int):=by rw [rangeSize_one]; split <;> omega
theorem zdl {n:Int}{k:Tok}{K E':Value→Shared→Prop} (hlo:-(2 ^ 62:Int)≤n) (hhi:n < (2 ^ 62:Int)) (h:ItK G t s st true (.int n) K):wpAny G.M A (call (.type "range") [.int n k]) (fun xv s'=>wpAny G.M A (pyIter xv) K E' s') E' s:=by
 refine call_range_1 (wpAny_pyIter_range (IsRange.new ..) (small_one (by decide) (by decide) hlo hhi) ?_)
 refine h _ _ (fun b o e=>Heap.get?_push_of_some _ (Heap.get?_push_of_some _ e)) (by rw [Heap.size_push]; exact ud _) (by show (Heap.get? _ _).isSome=true; rw [Heap.get?_push_size _ rfl]; rfl) rfl rfl fun t' s' hv _ hs'=>⟨n,rfl,hs' _ _ ?_⟩
 rw [zcy]
 exact Heap.get?_push_size _ rfl
theorem zen (O:G.Ok N) {range:Bool}{it:E}{iast j:PySem.Expr} (ha:IterAst sc range iast j) (hj:qb G C d sc Γ it j) {src:V}{s1:MS}{xs:List V} (hA:AOk d A) (hsc:env.scope.names=sc) (F:FrOk G A t env Γ loc s) (R:Rel G t st s)
  (e1:ev G.P C it loc st=.ok src s1) (hx:z6 s1 range src=some xs) {K:Value→Shared→Prop}{E':Value→Shared→Prop}
  (h:∀ t1 σ1,Step noX t t1 s σ1→Rel G t1 s1 σ1→ItK G t1 σ1 s1 range src K) :
  wpAny G.M A (eval iast env) (fun xv s'=>wpAny G.M A (pyIter xv) K E' s') E' s:=by
 cases ha with
 | plain j=>exact hj t st s env loc _ _ A hA hsc F R e1 _ _ fun v t1 σ1 S1 R1 r1=>zkq R1 r1 hx (h t1 σ1 S1 R1)
 | @range rp rpos j hg hjs =>
  obtain ⟨n,rfl,hlo,hhi⟩:=zaf hx
  have e1':evL G.P C [it] loc st=.ok [.int n] s1:=by rw [ym,e1]; rfl
  refine wpAny_Call_ofName (xd (v:=.type "range") O F R hsc hg (by decide) (by decide +kernel) ?_)
  refine v9 O (rz _) (l:=[it]) (m:=[j]) (by show (!isStarred j && true)=true; rw [hjs]; rfl) rfl (yr hjs hj uc) hA hsc F R e1' fun vs t1 σ1 S1 R1 r1=>?_
  obtain ⟨v,_,rfl,⟨k,rfl⟩,rfl⟩:=r1
  exact zdl hlo hhi (h t1 σ1 S1 R1)
end
end Mine
end
section
set_option maxRecDepth 100000
namespace Mine
open PySem PySem.W PyProof.Rows
section
variable {G:Gd}{N:Names}{C:Calls}{d:Dp}{sc:Sc}{Γ:Gam}{A:Around}{t:Tie}{st st':MS}{s:Shared}{env:Env}{loc:Loc}{X Y Z:V}{v w:Value}
noncomputable def clo (env:Env):Sc→List (PySem.Str×Addr)→List (PySem.Str×Addr)
 | [],acc=>acc
 | x :: r,acc=>clo env r (if x.2 == .free then (match env.cells.lookup x.1 with | some c=>(x.1,c) :: acc | none=>acc) else acc)
theorem zh3 (env:Env):∀ (names:Sc) (acc:List (PySem.Str×Addr)),(∀ x∈names,x.2=.free→(env.cells.lookup x.1).isSome=true) →
  (forIn names acc fun (x:PySem.Str×NameKind) (cs:List (PySem.Str×Addr))=>(if x.2 == .free then do let c ← cellOf env x.1; pure (ForInStep.yield ((x.1,c) :: cs)) else pure (ForInStep.yield cs):Sem _))=pure (clo env names acc)
 | [],_,_=>rfl
 | x :: r,acc,h=>by
  rw [List.forIn_cons]
  have ih:=fun acc=>zh3 env r acc fun y hy=>h y (.tail _ hy)
  by_cases q:(x.2 == .free)=true
  ·obtain ⟨c,hc⟩:=Option.isSome_iff_exists.mp (h x (.head _) (by simpa using q))
   simp only [q,if_true,cellOf,hc,clo]
   exact ih _
  ·simp only [q,if_false,clo]
   exact ih _
theorem zdi {scope:Scope} (h:∀ x∈scope.names,x.2=.free→(env.cells.lookup x.1).isSome=true):closureFor scope env=pure (clo env scope.names []):=by
 have e:=zh3 env scope.names [] h
 exact (congrArg (· >>= fun r=>pure r) e:_)
theorem zec:∀ {names:Sc}{acc:List (PySem.Str×Addr)}{n:PySem.Str}{c:Addr},(n,c)∈clo env names acc→(n,c)∈acc∨((n,.free)∈names∧env.cells.lookup n=some c)
 | [],_,_,_,h=>.inl h
 | x :: r,acc,n,c,h=>by
  simp only [clo] at h
  rcases zec h with h | h
  ·split at h
   ·rename_i q
    split at h
    ·rename_i c' hc
     rcases List.mem_cons.mp h with e | h
     ·cases e
      refine .inr ⟨?_,hc⟩
      have:x.2=.free:=by simpa using q
      rw [← this]; exact .head _
     ·exact .inl h
    ·exact .inl h
   ·exact .inl h
  ·exact .inr ⟨.tail _ h.1,h.2⟩
theorem eg:∀ {names:Sc}{acc:List (PySem.Str×Addr)}{n:PySem.Str},(∀ c,(n,c)∈acc→env.cells.lookup n=some c)→(n,.free)∈names∨acc.lookup n=env.cells.lookup n→(clo env names acc).lookup n=env.cells.lookup n
 | [],_,_,_,h=>h.resolve_left (fun z=>by cases z)
 | x :: r,acc,n,ha,h=>by
  simp only [clo]
  have hacc':∀ c,(n,c)∈(if (x.2 == .free)=true then (match env.cells.lookup x.1 with | some c=>(x.1,c) :: acc | none=>acc) else acc)→env.cells.lookup n=some c:=by
   intro c hc
   split at hc
   ·split at hc
    ·rename_i c' hc'
     rcases List.mem_cons.mp hc with e | hc
     ·cases e; exact hc'
     ·exact ha c hc
    ·exact ha c hc
   ·exact ha c hc
  refine eg hacc' ?_
  by_cases q:(n,.free)∈r
  ·exact .inl q
  ·right
   by_cases z:x.1=n
   ·by_cases z2:x.2=.free
    ·rw [if_pos (by simpa using z2),z]
     cases hc:env.cells.lookup n with
     | some c=>simp [List.lookup_cons]
     | none =>
      dsimp only
      cases hl:acc.lookup n with
      | none=>rfl
      | some c=>have:=ha c (mem_of_lookup hl); rw [hc] at this; exact za this
    ·rw [if_neg (by simpa using z2)]
     refine h.resolve_left fun hm=>?_
     rcases List.mem_cons.mp hm with e | hm
     ·exact z2 (by rw [← e])
     ·exact q hm
   ·have hl:acc.lookup n=env.cells.lookup n:=h.resolve_left fun hm=>by
     rcases List.mem_cons.mp hm with e | hm
     ·exact z (by rw [← e])
     ·exact q hm
    have hb:(n == x.1)=false:=by simpa using fun e=>z e.symm
    split
    ·split
     ·rw [List.lookup_cons,hb]; exact hl
     ·exact hl
    ·exact hl
end
end Mine
end
section
set_option maxRecDepth 100000
namespace Mine
open PySem PySem.W PyProof.Rows
section
variable {G:Gd}{N:Names}{C:Calls}{d:Dp}{sc:Sc}{Γ:Gam}{A:Around}{t:Tie}{st st':MS}{s:Shared}{env:Env}{loc:Loc}{X Y Z:V}{v w:Value}
theorem FrOk.stepX {X:Addr→Prop}{t':Tie}{s':Shared} (F:FrOk G A t env Γ loc s) (R:Rel G t st s) (S:Step X t t' s s') (xp:∀ a,X a→t.pv a) (hl:¬ X env.locals) (hc:∀ n c,env.cells.lookup n=some c→¬ X c) (nf:∀ a,X a→¬ t.Fr a):FrOk G A t' env Γ loc s' where
 sk:=F.sk.step R S fun a x f=>(nf a x f).elim
 fn:=F.fn
 gl:=F.gl
 bl:=F.bl
 pvl:=by rw [S.le.pv]; exact F.pvl
 pvc n c h:=by rw [S.le.pv]; exact F.pvc n c h
 apart:=F.apart
 ex:=by
  obtain ⟨m,cm,⟨o,es,ep,ho,r⟩,hcc,hz,hs⟩:=F.ex
  obtain ⟨sl,ho'⟩:=Step.pvk S R F.pvl hl ho
  refine ⟨m,cm,⟨_,es,ep,ho',r⟩,fun n c e=>?_,hz,fun i x X e1 e2=>?_⟩
  ·obtain ⟨oc,h1,h2⟩:=hcc n c e
   obtain ⟨sl,h1'⟩:=Step.pvk S R (F.pvc n c e) (hc n c e) h1
   exact ⟨_,h1',h2⟩
  ·obtain ⟨v,hv,r⟩:=hs i x X e1 e2
   exact ⟨v,VRel.step S xp X hv,r⟩
theorem FrOk.hideGrow {s':Shared}{P:Addr→Prop} (F:FrOk G A t env Γ loc s) (np:∀ a,P a→s.heap.get? a=none) (hk:∀ b o,s.heap.get? b=some o→s'.heap.get? b=some o) (hg:s'.gens=s.gens) (ho:s'.os=s.os):FrOk G A (t.hide P) env Γ loc s' where
 sk:=⟨F.sk.fr,fun e he=>let ⟨h1,L,o,h2,h3,h4,h5⟩:=F.sk.ob e he; ⟨h1,L,o,h2,.inl h3,hk _ _ h4,h5⟩⟩
 fn:=F.fn
 gl:=F.gl
 bl:=F.bl
 pvl:=.inl F.pvl
 pvc n c h:=.inl (F.pvc n c h)
 apart:=F.apart
 ex:=by
  have S:Step noX (t.hide P) (t.hide P) s s':=⟨.refl _,fun a o e _ _ _=>hk a o e,fun a o e _ _ _=>⟨o.slots,hk a o e⟩,fun _ o=>.inl o,fun a o e=>by rw [hk a o e]; rfl,hg,ho⟩
  obtain ⟨m,cm,hn,hcc,hz,hs⟩:=F.ex
  refine ⟨m,cm,hn.keeps hk,fun n c e=>?_,hz,fun i x X e1 e2=>?_⟩
  ·obtain ⟨oc,h1,h2⟩:=hcc n c e
   exact ⟨oc,hk _ _ h1,h2⟩
  ·obtain ⟨v,hv,r⟩:=hs i x X e1 e2
   exact ⟨v,VRel.step S (fun _ z=>z.elim) X (VRel.hide np X hv),r⟩
theorem tb {scope:Scope} (hf:env.scope.kind=.function) (hsc:env.scope.names=sc):(relabel scope env).names=qi sc scope.names:=by
 unfold relabel qi
 dsimp only
 refine List.map_congr_left fun x hx=>?_
 obtain ⟨n,k⟩:=x
 simp only [hf,Env.kindOf,hsc,BEq.rfl,Bool.and_true]
theorem uh:∀ {names:Sc}{y:PySem.Str},(∀ z∈names,z.2≠.cell)→(qi sc names).lookup y=some .cell→(y,.free)∈names∧sc.lookup y=some .cell
 | [],_,_,h=>by exact za h
 | x :: r,y,hn,h=>by
  have ih:=@uh r y (fun z hz=>hn z (.tail _ hz))
  obtain ⟨n,k⟩:=x
  change List.lookup y ((if k == .free && sc.lookup n == some .cell then (n,.cell) else (n,k)) :: qi sc r)=some .cell at h
  by_cases q:(k == .free && sc.lookup n == some .cell)=true
  ·rw [if_pos q,List.lookup_cons] at h
   simp only [Bool.and_eq_true,beq_iff_eq] at q
   cases z:y == n with
   | true =>
    have e:y=n:=by simpa using z
    subst e
    exact ⟨by rw [← q.1]; exact .head _,q.2⟩
   | false=>rw [z] at h; exact ⟨.tail _ (ih h).1,(ih h).2⟩
  ·rw [if_neg q,List.lookup_cons] at h
   cases z:y == n with
   | true=>rw [z] at h; cases h; exact absurd rfl (hn _ (.head _))
   | false=>rw [z] at h; exact ⟨.tail _ (ih h).1,(ih h).2⟩
set_option genCtorIdx false in
structure CompOk (sc:Sc) (scope:Scope) (slot:Nat) (Γ:Gam) (x:PySem.Str):Prop where
 fn:scope.kind=.function
 slot:slot < Γ.length
 x:scope.names.lookup x=some .local
 cell:∀ y∈scope.names,y.2≠.cell
 loc:∀ y∈scope.names,y.2=.local→scope.names.lookup y.1=some .local
 free:∀ y∈scope.names,y.2=.free→sc.lookup y.1=some .cell
theorem p8 {scope:Scope}{slot:Nat}{x:PySem.Str} (h:ip sc scope slot Γ x=true):CompOk sc scope slot Γ x:=by
 simp only [ip,Bool.and_eq_true,beq_iff_eq,decide_eq_true_eq,List.all_eq_true] at h
 obtain ⟨⟨⟨h1,h2⟩,h3⟩,h4⟩:=h
 refine ⟨h1,h2,h3,fun y hy z=>?_,fun y hy z=>?_,fun y hy z=>?_⟩
 ·have:=h4 y hy; simp [z] at this
 ·have:=h4 y hy; simpa [z] using this
 ·have:=h4 y hy; simpa [z] using this
theorem FrOk.comp {scope:Scope}{slot:Nat}{x:PySem.Str}{Ca:Addr}{m:PySem.Str→Option Value} (F:FrOk G A t env Γ loc s) (hsc:env.scope.names=sc) (K:CompOk sc scope slot Γ x) (hC:t.pv Ca) (hn:s.heap.Ns Ca m) (hm:m x=some v) (hv:VRel t s.heap X v) :
  FrOk G A t (compEnvC scope (clo env scope.names []) Ca env) (js (qi sc scope.names) Γ slot x) (loc.set slot (some X)) s:=by
 have hsc':=tb (scope:=scope) F.fn hsc
 obtain ⟨m0,cm,hn0,hcc,hz,hs⟩:=F.ex
 have lk:∀ n c,(clo env scope.names []).lookup n=some c→env.cells.lookup n=some c:=fun n c e=>(zec (mem_of_lookup e)).elim (fun z=>by cases z) fun z=>z.2
 refine ⟨F.sk,K.fn,F.gl,F.bl,hC,fun n c h=>?_,fun n n' c h h'=>F.apart n n' c (lk n c h) (lk n' c h'),m,cm,hn,fun n c e=>hcc n c (lk n c e),fun y hy=>?_,fun i y Y e1 e2=>?_⟩
 ·exact F.pvc n c (lk n c h)
 ·change (relabel scope env).names.lookup y=some .cell at hy
  rw [hsc'] at hy
  obtain ⟨h1,h2⟩:=uh K.cell hy
  show ((clo env scope.names []).lookup y).isSome=true
  rw [eg (fun c z=>by cases z) (.inl h1)]
  exact hz y (by unfold Env.kindOf; rw [hsc]; exact h2)
 ·unfold js at e1
  by_cases q:i=slot
  ·subst q
   rw [List.getElem?_set_self (by rw [List.length_map]; exact K.slot)] at e1
   cases e1
   have e2':Y=X:=by
    by_cases hl2:i < loc.length
    ·rw [List.getElem?_set_self hl2] at e2; cases e2; rfl
    ·rw [List.getElem?_eq_none (by rw [List.length_set]; lia)] at e2; exact za e2
   subst e2'
   exact ⟨v,hv,.inl ⟨lookup_relabel_local K.x,hm⟩⟩
  ·rw [List.getElem?_set_ne (fun z=>q z.symm),List.getElem?_map] at e1
   rw [List.getElem?_set_ne (fun z=>q z.symm)] at e2
   obtain ⟨o,ho,e3⟩:=Option.map_eq_some_iff.mp e1
   cases o with
   | none=>exact za e3
   | some n =>
    dsimp only at e3
    split at e3
    ·rename_i hcell
     obtain rfl:n=y:=by cases e3; rfl
     have hcell:(qi sc scope.names).lookup n=some .cell:=by simpa using hcell
     obtain ⟨h1,h2⟩:=uh K.cell hcell
     obtain ⟨u,u1,u2⟩:=hs i n Y ho e2
     have hk:env.kindOf n=some .cell:=by unfold Env.kindOf; rw [hsc]; exact h2
     refine ⟨u,u1,.inr ⟨?_,?_⟩⟩
     ·show (relabel scope env).names.lookup n=some .cell
      rw [hsc']; exact hcell
     ·rcases u2 with ⟨z,_⟩ | ⟨_,z⟩
      ·rw [hk] at z; cases z
      ·exact z
    ·exact za e3
end
end Mine
end
section
set_option maxRecDepth 100000
namespace Mine
open PySem PySem.W PyProof.Rows
section
variable {G:Gd}{N:Names}{C:Calls}{d:Dp}{sc:Sc}{Γ:Gam}{A:Around}{t:Tie}{st st':MS}{s:Shared}{env:Env}{loc:Loc}{X Y Z:V}{v w:Value}
inductive CondSim (G:Gd) (C:Calls) (d:Dp) (sc:Sc) (Γ:Gam):Option E→List PySem.Expr→Prop
 | none:CondSim G C d sc Γ none []
 | some {c:E}{ci:PySem.Expr}:bz G C d sc Γ c ci→CondSim G C d sc Γ (some c) [ci]
noncomputable def iz (P:Prog) (C:Calls) (cond:Option E) (loc:Loc) (st:MS):Res Bool :=
 match evC P C cond with
 | some c=>(c loc st).bind vn
 | none=>.ok true st
theorem zl8 {cond:Option E}{ifs:List PySem.Expr} (h:CondSim G C d sc Γ cond ifs) (hA:AOk d A) (hsc:env.scope.names=sc) (F:FrOk G A t env Γ loc s) (R:Rel G t st s) {b:Bool} (e:iz G.P C cond loc st=.ok b st') :
  Sim G A t s (forIn ifs true fun c r=>if r=true then do let ok ← isTrue c env (eval c env); pure (ForInStep.yield ok) else pure (ForInStep.yield r)) st' (fun _ _ b'=>b'=b):=by
 cases h with
 | none =>
  cases e
  exact fun Q E k=>wpAny_pure (k true t s (.refl _ _ _) R rfl)
 | @some c ci h =>
  simp only [iz,evC] at e
  obtain ⟨v,s1,e1,e⟩:=Res.bind_ok e
  obtain ⟨rfl,rfl⟩:=xa e
  intro Q E k
  rw [List.forIn_cons]
  simp only [if_true]
  refine wpAny_bind (wpAny_bind (h t st s env loc b _ A hA hsc F R e1 _ _ fun b' t1 σ1 S1 R1 r1=>?_))
  exact wpAny_pure (wpAny_pure (k b' t1 σ1 S1 R1 r1))
inductive CEnd (G:Gd) (A:Around) (t:Tie) (σ:Shared) (st':MS) (vs:List V) (env:Env) (Γ:Gam) (loc:Loc) (Ca D:Addr) (se:Shared):Prop
 | mk (P:Addr→Prop) (τ:Tie) (s0 s1:Shared) (ys:Array Value) (m:PySem.Str→Option Value)
  (np:∀ a,P a→σ.heap.get? a=none) (pC:P Ca) (pD:P D) (DC:D≠Ca) (hk:∀ b o,σ.heap.get? b=some o→s0.heap.get? b=some o) (hg:s0.gens=σ.gens) (ho:s0.os=σ.os) (S:Step P (t.hide P) τ s0 s1) (R:Rel G τ st' s1) (F:FrOk G A τ env Γ loc s1)
  (hD:PL s1.heap D ys) (hv:VRels τ s1.heap vs ys.toList) (hz:vs.length≤zf) (hn:se.heap.Ns Ca m) (hx:∀ b o,(P b→b=Ca∨b=D)→s1.heap.get? b=some o→se.heap.get? b=some o) (hg1:se.gens=s1.gens) (ho1:se.os=s1.os):CEnd G A t σ st' vs env Γ loc Ca D se
theorem mx {st₀:MS}{range:Bool}{src:V}{slot:Nat}{cnd:Option (Loc→MS→Res V)}{el:Loc→MS→Res V}{l:Loc}{acc vs:List V}{s s':MS} (e:compLoop st₀ range src slot cnd el l acc [] s=.ok vs s'):stays st₀ s range src=true∧acc=vs∧s=s':=by
 simp only [v8] at e
 split at e
 ·rename_i h
  cases e; exact ⟨h,rfl,rfl⟩
 ·exact zd e
theorem pq {st₀:MS}{range:Bool}{src x:V}{xs:List V}{slot:Nat}{P:Prog}{C:Calls}{cond:Option E}{el:Loc→MS→Res V}{l:Loc}{acc vs:List V}{s s':MS} (e:compLoop st₀ range src slot (evC P C cond) el l acc (x :: xs) s=.ok vs s') :
  stays st₀ s range src=true∧∃ b s2,iz P C cond (l.set slot (some x)) s=.ok b s2 ∧
   (b=false∧compLoop st₀ range src slot (evC P C cond) el l acc xs s2=.ok vs s'∨b=true∧∃ y s4,el (l.set slot (some x)) s2=.ok y s4∧acc.length + 1≤zf∧compLoop st₀ range src slot (evC P C cond) el l (acc ++ [y]) xs s4=.ok vs s'):=by
 simp only [vh] at e
 split at e
 case isFalse=>exact zd e
 rename_i h
 obtain ⟨b,s2,e2,e⟩:=Res.bind_ok e
 refine ⟨h,b,s2,e2,?_⟩
 cases b with
 | false =>
  simp only [Bool.false_eq_true,if_false] at e
  exact .inl ⟨rfl,e⟩
 | true =>
  simp only [if_true] at e
  obtain ⟨y,s4,e4,e⟩:=Res.bind_ok e
  split at e
  case isFalse=>exact zd e
  rename_i hlen
  exact .inr ⟨rfl,y,s4,e4,hlen,e⟩
inductive CInv (G:Gd) (A:Around) (C:Calls) (t:Tie) (env:Env) (Γ:Gam) (loc:Loc) (P:Addr→Prop) (Ca D I:Addr) (s0:Shared) (st₀:MS) (range:Bool) (src:V) (xs:List V) (slot:Nat) (cond:Option E) (el:E) (vs:List V) (st':MS):Nat→Shared→Prop
 | mk (τ:Tie) (σ1:Shared) (sti:MS) (ys:Array Value) (m:PySem.Str→Option Value) (done rest acc:List V) (hxs:xs=done ++ rest) (S:Step P (t.hide P) τ s0 σ1) (R:Rel G τ sti σ1) (F:FrOk G A τ env Γ loc σ1) (hn:σ1.heap.Ns Ca m) (hD:PL σ1.heap D ys)
   (hacc:VRels τ σ1.heap acc ys.toList) (hsz:acc.length≤zf) (hI:ItOk G st₀ τ σ1 I range src done.length) (e:compLoop st₀ range src slot (evC G.P C cond) (ev G.P C el) loc acc rest sti=.ok vs st'):CInv G A C t env Γ loc P Ca D I s0 st₀ range src xs slot cond el vs st' rest.length σ1
theorem zn5 {h:Heap}{a:Addr}{m:PySem.Str→Option Value} (q:h.Ns a m):(h.get? a).isSome=true:=by obtain ⟨o,_,_,q,_⟩:=q; rw [q]; rfl
theorem zmu {h:Heap}{a:Addr}{ys:Array Value} (q:PL h a ys):(h.get? a).isSome=true:=by obtain ⟨k,q⟩:=q; rw [q]; rfl
theorem ld {h h':Heap}{a:Addr}{m:PySem.Str→Option Value} (q:h.Ns a m) (k:∀ o,h.get? a=some o→h'.get? a=some o):h'.Ns a m:=by obtain ⟨o,es,ep,q1,q2⟩:=q; exact ⟨o,es,ep,k o q1,q2⟩
theorem lh {h h':Heap}{a:Addr}{ys:Array Value} (q:PL h a ys) (k:∀ o,h.get? a=some o→h'.get? a=some o):PL h' a ys:=by obtain ⟨z,q⟩:=q; exact ⟨z,k _ q⟩
theorem zgi {range:Bool}{src:V}{xs vs:List V}{st₀:MS}{slot:Nat}{cond:Option E}{el:E}{elt:PySem.Expr}{ifs:List PySem.Expr}{scope:Scope}{x:PySem.Str}{px:Pos}{P:Addr→Prop}{Ca D I:Addr}{σ s0:Shared}{RN J:Shared→Prop}{EE:Value→Shared→Prop}{τ:Tie}{σ1:Shared}{sti:MS}{ys:Array Value}{m:PySem.Str→Option Value}{done rest acc:List V}
  (hq:d.q=true) (hA:AOk d A) (hsc:env.scope.names=sc) (K:CompOk sc scope slot Γ x)
  (hcond:CondSim G C d (qi sc scope.names) (js (qi sc scope.names) Γ slot x) cond ifs) (hel:qb G C d (qi sc scope.names) (js (qi sc scope.names) Γ slot x) el elt)
  (nF0:∀ a,P a→¬ (t.hide P).Fr a) (np:∀ a,P a→σ.heap.get? a=none) (pC:P Ca) (pD:P D) (pI:P I) (pO:∀ a,P a→a=Ca∨a=D∨a=I) (DC:D≠Ca) (DI:D≠I) (CI:Ca≠I) (hk0:∀ b o,σ.heap.get? b=some o→s0.heap.get? b=some o) (hg0:s0.gens=σ.gens) (ho0:s0.os=σ.os)
  (hsc':(compEnvC scope (clo env scope.names []) Ca env).scope.names=qi sc scope.names) (fl:¬ P env.locals) (fc:∀ n c,env.cells.lookup n=some c→¬ P c)
  (hx:z6 st₀ range src=some xs) (hxs:xs=done ++ rest) (S:Step P (t.hide P) τ s0 σ1) (R:Rel G τ sti σ1) (F:FrOk G A τ env Γ loc σ1) (hn:σ1.heap.Ns Ca m) (hD:PL σ1.heap D ys)
  (hacc:VRels τ σ1.heap acc ys.toList) (hsz:acc.length≤zf) (hI:ItOk G st₀ τ σ1 I range src done.length) (e:compLoop st₀ range src slot (evC G.P C cond) (ev G.P C el) loc acc rest sti=.ok vs st')
  (hRN:∀ se,CEnd G A t σ st' vs env Γ loc Ca D se→RN se) (hJ:∀ m s,m < rest.length→CInv G A C t env Γ loc P Ca D I s0 st₀ range src xs slot cond el vs st' m s→J s) :
  wpAny G.M A (pyNext (.ref I)) (fun r s₁=>match r with
   | none=>RN s₁
   | some v=>wpAny G.M A (assign (.Name x px) (compEnvC scope (clo env scope.names []) Ca env) v) (fun _ s₂ =>
     wpAny G.M A (forIn ifs true fun c r=>if r=true then do let ok ← isTrue c (compEnvC scope (clo env scope.names []) Ca env) (eval c (compEnvC scope (clo env scope.names []) Ca env)); pure (ForInStep.yield ok) else pure (ForInStep.yield r)) (fun ok s₃ =>
      if ok=true then wpAny G.M A (eval elt (compEnvC scope (clo env scope.names []) Ca env)) (fun x s₄=>wpAny G.M A (call (.builtin "list.append") [.ref D,x]) (fun _ s₅=>J s₅) EE s₄) EE s₃
      else J s₃) EE s₂) EE s₁) EE σ1:=by
 have hpv:∀ a,P a→τ.pv a:=fun a q=>by rw [S.le.pv]; exact .inr q
 have nF:∀ a,P a→¬ τ.Fr a:=fun a q f=>nF0 a q (S.le.fr f)
 cases rest with
 | nil =>
  obtain ⟨hst,e1,e2⟩:=mx e
  have hI':ItOk G st₀ τ σ1 I range src xs.length:=by rw [hxs,List.append_nil]; exact hI
  refine zlf R (hA.hd hq) hx hst hI' fun h' tk hext=>?_
  refine hRN _ ⟨P,τ,s0,σ1,ys,m,np,pC,pD,DC,hk0,hg0,ho0,S,e2 ▸ R,F,hD,e1 ▸ hacc,e1 ▸ hsz,?_,?_,rfl,rfl⟩
  ·exact ld hn fun o q=>hext _ _ CI q
  ·exact fun b o hb eb=>hext b o (fun z=>(hb (z ▸ pI)).elim (fun y=>CI (y.symm.trans z)) fun y=>DI (y.symm.trans z)) eb
 | cons x0 rest =>
  refine byQ fun Q' k'=>?_
  obtain ⟨hst,b,s2,e2,e⟩:=pq e
  refine k' ?_
  have hi:xs[done.length]?=some x0:=by rw [hxs,List.getElem?_append_right (Nat.le_refl _),Nat.sub_self]; rfl
  refine zei R (hpv I pI) hx hst hI hi fun v h1 tk1 SA RA rv hIA=>?_
  -- the frame stands
  have FA:FrOk G A τ env Γ loc { σ1 with heap:=h1,toks:=tk1 }:=F.stepX R SA (fun a z=>by rw [z]; exact hpv _ pI) (fun z=>fl (by rw [z]; exact pI)) (fun n c hc z=>fc n c hc (by rw [z]; exact pI)) fun a z=>by rw [z]; exact nF _ pI
  have hnA:Heap.Ns h1 Ca m:=ld hn fun o q=>SA.keep _ _ q (R.pv _ (hpv _ pC)) CI (nF _ pC)
  have hDA:PL h1 D ys:=lh hD fun o q=>SA.keep _ _ q (R.pv _ (hpv _ pD)) DI (nF _ pD)
  have haccA:=VRels.step SA (fun a z=>by rw [z]; exact hpv _ pI) _ hacc
  refine wpAny_assign_Name (wpAny_storeName_local (lookup_relabel_local K.x) (s:={ σ1 with heap:=h1,toks:=tk1 }) hnA (fun h2 hn2 hs2=>?_) (by simp [compEnvC,relabel,K.fn]))
  change Heap.Ns h2 Ca _ at hn2
  change Heap.SameBut Ca h1 h2 at hs2
  have hl2:(h2.get? Ca).isSome=true:=zn5 hn2
  have SB:Step (·=Ca) τ τ { σ1 with heap:=h1,toks:=tk1 } { σ1 with heap:=h2,toks:=tk1 + 1 }:=Step.priv rfl hl2 hs2
  have RB:Rel G τ sti { σ1 with heap:=h2,toks:=tk1 + 1 }:=RA.priv (hpv _ pC) hl2 hs2
  have xB:∀ a,a=Ca→τ.pv a:=fun a z=>by rw [z]; exact hpv _ pC
  have FB:FrOk G A τ env Γ loc { σ1 with heap:=h2,toks:=tk1 + 1 }:=FA.stepX RA SB xB (fun z=>fl (by rw [z]; exact pC)) (fun n c hc z=>fc n c hc (by rw [z]; exact pC)) fun a z=>by rw [z]; exact nF _ pC
  have hDB:PL h2 D ys:=lh hDA fun o q=>SB.keep _ _ q (RA.pv _ (hpv _ pD)) DC (nF _ pD)
  have haccB:=VRels.step SB xB _ haccA
  have rvB:VRel τ h2 x0 v:=VRel.step SB xB _ rv
  have hIB:=hIA.step SB xB RA.pv (hpv _ pI) (fun z=>CI z.symm) (nF _ pI)
  have FC:=FB.comp (x:=x) (X:=x0) hsc K (hpv _ pC) hn2 (by simp) rvB
  have SAB:Step P (t.hide P) τ s0 { σ1 with heap:=h2,toks:=tk1 + 1 }:=(S.trans (SA.mono fun a z=>by rw [z]; exact pI)).trans (SB.mono fun a z=>by rw [z]; exact pC)
  refine zl8 hcond hA hsc' FC RB e2 _ _ fun b' τ3 σ3 S3 R3 r3=>?_
  have hpv3:∀ a,P a→τ3.pv a:=fun a q=>by rw [S3.le.pv]; exact hpv a q
  have F3:=FB.step RB S3
  have nF3:∀ a,P a→¬ τ3.Fr a:=fun a q f=>nF a q (S3.le.fr f)
  have hn3:=ld (h':=σ3.heap) hn2 fun o q=>S3.keep _ _ q (RB.pv _ (hpv _ pC)) (fun z=>z) (nF _ pC)
  have hD3:PL σ3.heap D ys:=lh hDB fun o q=>S3.keep _ _ q (RB.pv _ (hpv _ pD)) (fun z=>z) (nF _ pD)
  have hacc3:=VRels.step S3 (fun _ z=>z.elim) _ haccB
  have hI3:=hIB.step S3 (fun _ z=>z.elim) RB.pv (hpv _ pI) (fun z=>z) (nF _ pI)
  have S03:=SAB.trans (S3.mono fun a z=>z.elim)
  have hxs':xs=(done ++ [x0]) ++ rest:=by rw [hxs]; simp
  rcases e with ⟨z,e⟩ | ⟨z,y,s4,e4,hlen,e⟩
  ·rw [if_neg (by rw [r3,z]; exact Bool.false_ne_true)]
   exact hJ _ _ (Nat.lt_succ_self _) ⟨τ3,_,s2,ys,_,done ++ [x0],rest,acc,hxs',S03,R3,F3,hn3,hD3,hacc3,hsz,by rw [List.length_append]; exact hI3,e⟩
  ·rw [if_pos (r3.trans z)]
   have FC3:=FC.step RB S3
   refine hel τ3 s2 σ3 _ (loc.set slot (some x0)) y s4 A hA hsc' FC3 R3 e4 _ _ fun u τ4 σ4 S4 R4 r4=>?_
   have hpv4:∀ a,P a→τ4.pv a:=fun a q=>by rw [S4.le.pv]; exact hpv3 a q
   have F4:=F3.step R3 S4
   have nF4:∀ a,P a→¬ τ4.Fr a:=fun a q f=>nF3 a q (S4.le.fr f)
   have hD4:PL σ4.heap D ys:=lh hD3 fun o q=>S4.keep _ _ q (R3.pv _ (hpv3 _ pD)) (fun z=>z) (nF3 _ pD)
   have hacc4:=VRels.step S4 (fun _ z=>z.elim) _ hacc3
   have hI4:=hI3.step S4 (fun _ z=>z.elim) R3.pv (hpv3 _ pI) (fun z=>z) (nF3 _ pI)
   refine wpAny_list_append_plain (hsz:=by rw [j0 hacc4]; exact hsz) hD4 fun h5 hl5 hs5=>?_
   have hl:(h5.get? D).isSome=true:=zmu hl5
   have S5:Step (·=D) τ4 τ4 σ4 { σ4 with heap:=h5,toks:=σ4.toks }:=Step.priv rfl hl hs5
   have xD:∀ a,a=D→τ4.pv a:=fun a z=>by rw [z]; exact hpv4 _ pD
   have R5:Rel G τ4 s4 { σ4 with heap:=h5,toks:=σ4.toks }:=R4.priv (hpv4 _ pD) hl hs5
   have F5:=F4.stepX R4 S5 xD (fun z=>fl (by rw [z]; exact pD)) (fun n c hc z=>fc n c hc (by rw [z]; exact pD)) fun a z=>by rw [z]; exact nF4 _ pD
   have hn5:=ld (h':=h5) hn3 fun o q=>S5.keep _ _ (S4.keep _ _ q (R3.pv _ (hpv3 _ pC)) (fun z=>z) (nF3 _ pC)) (R4.pv _ (hpv4 _ pC)) (fun z=>DC z.symm) (nF4 _ pC)
   refine hJ _ _ (Nat.lt_succ_self _) ⟨τ4,_,s4,ys.push u,_,done ++ [x0],rest,acc ++ [y],hxs',(S03.trans (S4.mono fun a z=>z.elim)).trans (S5.mono fun a z=>by rw [z]; exact pD),R5,F5,hn5,hl5,?_,by rw [List.length_append]; exact hlen,?_,e⟩
   ·rw [Array.toList_push]
    exact (VRels.step S5 xD _ hacc4).append ⟨u,[],rfl,VRel.step S5 xD _ r4,rfl⟩
   ·have:=hI4.step S5 xD R4.pv (hpv4 _ pI) (fun z=>DI z.symm) (nF4 _ pI)
    rw [List.length_append]; exact this
theorem zfr {range:Bool}{src:V}{xs vs:List V}{st₀:MS}{slot:Nat}{cond:Option E}{el:E}{elt iter:PySem.Expr}{ifs:List PySem.Expr}{scope:Scope}{x:PySem.Str}{px pos:Pos}{P:Addr→Prop}{Ca D I:Addr}{σ s0:Shared}{m0:PySem.Str→Option Value}{RR:Result→Shared→Prop}
  (hq:d.q=true) (hA:AOk d A) (hsc:env.scope.names=sc) (K:CompOk sc scope slot Γ x)
  (hcond:CondSim G C d (qi sc scope.names) (js (qi sc scope.names) Γ slot x) cond ifs) (hel:qb G C d (qi sc scope.names) (js (qi sc scope.names) Γ slot x) el elt)
  (nF0:∀ a,P a→¬ (t.hide P).Fr a) (np:∀ a,P a→σ.heap.get? a=none) (pC:P Ca) (pD:P D) (pI:P I) (pO:∀ a,P a→a=Ca∨a=D∨a=I) (DC:D≠Ca) (DI:D≠I) (CI:Ca≠I) (hk0:∀ b o,σ.heap.get? b=some o→s0.heap.get? b=some o) (hg0:s0.gens=σ.gens) (ho0:s0.os=σ.os)
  (F0:FrOk G A (t.hide P) env Γ loc s0) (fl:¬ P env.locals) (fc:∀ n c,env.cells.lookup n=some c→¬ P c) (R0:Rel G (t.hide P) st₀ s0) (hn0:s0.heap.Ns Ca m0) (hD0:PL s0.heap D #[]) (hI0:ItOk G st₀ (t.hide P) s0 I range src 0)
  (hx:z6 st₀ range src=some xs) (e:compLoop st₀ range src slot (evC G.P C cond) (ev G.P C el) loc [] xs st₀=.ok vs st')
  (hRR:∀ se,CEnd G A t σ st' vs env Γ loc Ca D se→RR (.ok .next) se) :
  codeAny G.M A (.compLoop (.ListComp elt [⟨.Name x px,iter,ifs,0⟩] scope pos) 0 (.ref I) (.ref D) (compEnvC scope (clo env scope.names []) Ca env)) RR s0:=by
 have hsc':(compEnvC scope (clo env scope.names []) Ca env).scope.names=qi sc scope.names:=tb F0.fn hsc
 refine codeAny_compLoop_tests (CInv G A C t env Γ loc P Ca D I s0 st₀ range src xs slot cond el vs st') (fun n σ1 h=>?_) xs.length ⟨t.hide P,s0,st₀,#[],m0,[],xs,[],rfl,.refl _ _ _,R0,F0,hn0,hD0,rfl,Nat.zero_le _,hI0,e⟩
 cases h with
 | mk τ σ1 sti ys m done rest acc hxs S R F hn hD hacc hsz hI e =>
  exact zgi hq hA hsc K hcond hel nF0 np pC pD pI pO DC DI CI hk0 hg0 ho0 hsc' fl fc hx hxs S R F hn hD hacc hsz hI e (fun se=>hRR se) fun m s hm h=>⟨m,hm,h⟩
end
end Mine
end
section
set_option maxRecDepth 100000
namespace Mine
open PySem PySem.W PyProof.Rows
noncomputable def wx (x:PySem.Expr):Bool:=!Nat.beq x.ctorIdx 7
theorem ml {e:PySem.Expr} (h:wx e=true) (env:Env) (x:Value):foldedSetIterable e env x=pure x:=by
 cases e <;> first | rfl | exact qg h
section
variable {G:Gd}{N:Names}{C:Calls}{d:Dp}{sc:Sc}{Γ:Gam}{A:Around}{t:Tie}{st st':MS}{s:Shared}{env:Env}{loc:Loc}{X Y Z:V}{v w:Value}
theorem zqj (O:G.Ok N) {t:Tie}{st:MS}{σ1 σ2:Shared} (R:Rel G t st σ1) (hk:∀ b o,σ1.heap.get? b=some o→σ2.heap.get? b=some o):σ2.heap.objs.size≠sysModules:=by
 obtain ⟨mc,⟨o,es,ep,ho,_⟩,_⟩:=O.lim
 have:=Heap.lt_size (hk _ _ (R.base _ _ ho))
 intro q
 rw [q] at this
 exact absurd this (by decide)
theorem zd5 (hq:d.q=true) (O:G.Ok N) {range:Bool}{src:V}{xs vs:List V}{s1:MS}{slot:Nat}{it:E}{cond:Option E}{el:E}{elt iast j:PySem.Expr}{ifs:List PySem.Expr}{scope:Scope}{x:PySem.Str}{px pos pos':Pos}{use:Option (Value→Sem Unit)}{Q E':Value→Shared→Prop}
  (hA:AOk d A) (hsc:env.scope.names=sc) (K:CompOk sc scope slot Γ x) (hset:wx iast=true) (ha:IterAst sc range iast j) (hj:qb G C d sc Γ it j)
  (hcond:CondSim G C d (qi sc scope.names) (js (qi sc scope.names) Γ slot x) cond ifs) (hel:qb G C d (qi sc scope.names) (js (qi sc scope.names) Γ slot x) el elt)
  (F:FrOk G A t env Γ loc s) (R:Rel G t st s) (e1:ev G.P C it loc st=.ok src s1) (hx:z6 s1 range src=some xs) (e:compLoop s1 range src slot (evC G.P C cond) (ev G.P C el) loc [] xs s1=.ok vs st')
  (hend:∀ t1 σ1 Ca D se,Step noX t t1 s σ1→Rel G t1 s1 σ1→D≠sysModules→CEnd G A t1 σ1 st' vs env Γ loc Ca D se→compPost G.M A E' use Q (.ref D) Ca (.ok .next) se) :
  wpAny G.M A (comprehension (.ListComp elt [⟨.Name x px,iast,ifs,0⟩] scope pos) scope env pos' (newList []) false (eval iast env) use) Q E' s:=by
 have hfree:∀ y∈scope.names,y.2=.free→(env.cells.lookup y.1).isSome=true:=fun y hy z=>by
  obtain ⟨_,_,_,_,hz,_⟩:=F.ex
  exact hz y.1 (by unfold Env.kindOf; rw [hsc]; exact K.free y hy z)
 refine wpAny_comprehension_free (g:=⟨.Name x px,iast,ifs,0⟩) (gs:=[]) rfl (ml hset env) (zdi hfree) K.fn K.loc ?_
 refine zen O ha hj hA hsc F R e1 hx fun t1 σ1 S1 R1 σ2 I hk hI hIl hg ho hit=>?_
 refine wpAny_newObj_type (wpAny_newFunctionEnv K.cell (by intro y hy; simp at hy) (fun h₁ hns₁ hsb₁=>?_) K.fn)
 dsimp only at hns₁ hsb₁ ⊢
 generalize hH2:σ2.heap.push { cls:=.type "list",dict:=none,data:=.seq ([]:List Value).toArray }=H2 at hns₁ hsb₁ ⊢
 have hC:H2.objs.size=σ2.heap.objs.size + 1:=by rw [← hH2,Heap.size_push]
 have DC:σ2.heap.objs.size≠H2.objs.size:=by rw [hC]; exact Nat.ne_of_lt (Nat.lt_succ_self _)
 obtain ⟨oI,hoI⟩:=Option.isSome_iff_exists.mp hIl
 have ltI:=Heap.lt_size hoI
 have DI:σ2.heap.objs.size≠I:=fun z=>Nat.lt_irrefl _ (z ▸ ltI)
 have CI:H2.objs.size≠I:=fun z=>by rw [hC] at z; exact absurd ltI (by rw [← z]; exact Nat.not_lt.mpr (Nat.le_succ _))
 have old:∀ b o,σ2.heap.get? b=some o→h₁.get? b=some o:=fun b o e=>hsb₁.extBut b o (fun z=>by
  have:=Heap.lt_size e; rw [z,hC] at this; exact absurd this (Nat.not_lt.mpr (Nat.le_succ _))) (Heap.get?_push_of_some _ (hH2 ▸ Heap.get?_push_of_some _ e))
 have hacc:PL h₁ σ2.heap.objs.size #[]:=⟨_,hsb₁.extBut _ _ DC (Heap.get?_push_of_some _ (hH2 ▸ Heap.get?_push_size _ rfl))⟩
 let P:Addr→Prop:=fun a=>a=H2.objs.size∨a=σ2.heap.objs.size∨a=I
 have np:∀ a,P a→σ1.heap.get? a=none:=by
  rintro a (z | z | z)
  ·rw [z,hC]; exact b7 hk (ud _)
  ·rw [z]; exact b7 hk (qv _)
  ·rw [z]; exact hI
 have hk0:∀ b o,σ1.heap.get? b=some o→h₁.get? b=some o:=fun b o e=>old b o (hk b o e)
 have hlP:∀ a,P a→(h₁.get? a).isSome=true:=by
  rintro a (z | z | z)
  ·rw [z]; obtain ⟨o,_,_,q,_⟩:=hns₁; rw [q]; rfl
  ·rw [z]; obtain ⟨k,q⟩:=hacc; rw [q]; rfl
  ·rw [z,old _ _ hoI]; rfl
 have F1:=F.step R S1
 have notP:∀ a,t1.pv a→¬ P a:=fun a q z=>by
  have:=R1.live a (.inr q)
  rw [np a z] at this; exact qg this
 have F0:FrOk G A (t1.hide P) env Γ loc { σ2 with heap:=h₁,toks:=σ2.toks + ([]:List (PySem.Str×Value)).length }:=F1.hideGrow np hk0 hg ho
 have R0:Rel G (t1.hide P) s1 { σ2 with heap:=h₁,toks:=σ2.toks + ([]:List (PySem.Str×Value)).length }:=R1.hideGrow np hk0 hlP hg ho
 have SG:Step noX (t1.hide P) (t1.hide P) σ1 { σ2 with heap:=h₁,toks:=σ2.toks + ([]:List (PySem.Str×Value)).length }:=⟨.refl _,fun a o e _ _ _=>hk0 a o e,fun a o e _ _ _=>⟨o.slots,hk0 a o e⟩,fun _ o=>.inl o,fun a o e=>by show (h₁.get? a).isSome=true; rw [hk0 a o e]; rfl,hg,ho⟩
 have I0:ItOk G s1 (t1.hide P) { σ2 with heap:=h₁,toks:=σ2.toks + ([]:List (PySem.Str×Value)).length } I range src 0:=hit _ _ (fun a r=>VRel.step SG (fun _ z=>z.elim) _ (VRel.hide np _ r)) rfl fun b o e=>old b o e
 have loop:codeAny G.M A (.compLoop (.ListComp elt [⟨.Name x px,iast,ifs,0⟩] scope pos) 0 (.ref I) (.ref σ2.heap.objs.size) (compEnvC scope (clo env scope.names []) H2.objs.size env))
   (compPost G.M A E' use Q (.ref σ2.heap.objs.size) H2.objs.size) { σ2 with heap:=h₁,toks:=σ2.toks + ([]:List (PySem.Str×Value)).length } :=
  zfr (P:=P) (t:=t1) (σ:=σ1) hq hA hsc K hcond hel (fun a q=>F1.sk.fresh (np a q)) np (.inl rfl) (.inr (.inl rfl)) (.inr (.inr rfl)) (fun a z=>z) DC DI CI hk0 hg ho F0 (notP _ F1.pvl) (fun n c hc=>notP _ (F1.pvc n c hc)) R0 hns₁ hacc I0 hx e fun se ce=>hend t1 σ1 _ _ se S1 R1 (zqj O R1 hk) ce
 exact codeAny_compStart_list loop (zmn R0 (hA.hd hq) I0 loop)
noncomputable def znu (M:Option Nat) (st:MS) (vs:List V):V:=match M with | none=>.lst vs | some k=>.ref (k,st.cnt k)
noncomputable def stM (M:Option Nat) (st:MS) (vs:List V):MS:=match M with | none=>st | some k=>st.new k (.list vs)
theorem VRels.all {t t':Tie}{h h':Heap} (k:∀ (X:V) (v:Value),VRel t h X v→VRel t' h' X v):∀ {l:List V}{vs:List Value},VRels t h l vs→VRels t' h' l vs
 | [],_,e=>e
 | x :: _,_,⟨v,r,e,a,b⟩=>⟨v,r,e,k x v a,VRels.all k b⟩
section
variable {P L:Addr→Prop}{τ:Tie}{σ s0 s1 se:Shared}{D:Addr} (R₁:Rel G t st σ) (np:∀ a,P a→σ.heap.get? a=none) (pD:P D) (hk0:∀ b o,σ.heap.get? b=some o→s0.heap.get? b=some o) (hg0:s0.gens=σ.gens) (ho0:s0.os=σ.os)
  (S:Step P (t.hide P) τ s0 s1) (R:Rel G τ st' s1) (hL:∀ a,L a→t.pv a∧(se.heap.get? a).isSome=true)
  (hext:∀ b o,(P b→b=D)→¬ L b→s1.heap.get? b=some o→se.heap.get? b=some o) (hg:se.gens=s1.gens) (ho:se.os=s1.os)
include R₁ np pD hk0 hg0 ho0 S R hL hext hg ho
theorem znz (hsys:D≠sysModules) {k:Nat}{o:MObj} (hO:∀ t2,(∀ (X:V) (v:Value),VRel τ s1.heap X v→VRel t2 se.heap X v)→t2.ρ (k,st'.cnt k)=some D→ObjOk G t2 se.heap (k,st'.cnt k) o) :
  ∃ t2,Step L t t2 σ se∧Rel G t2 (st'.new k o) se∧VRel t2 se.heap (.ref (k,st'.cnt k)) (.ref D)∧t2.pv=t.pv∧∀ (X:V) (v:Value),VRel τ s1.heap X v→VRel t2 se.heap X v:=by
 have hpv:τ.pv=(t.hide P).pv:=S.le.pv
 have nP:∀ a,t.pv a→¬ P a:=fun a q z=>by
  have:=R₁.live a (.inr q)
  rw [np a z] at this; exact qg this
 have pτ:∀ a,t.pv a→τ.pv a:=fun a q=>by rw [hpv]; exact .inl q
 have Fg:Forget P L τ { τ with pv:=t.pv,st:=t.st } s1 se :=
  ⟨rfl,rfl,fun a q=>⟨pτ a q,nP a q⟩,fun a q=>by rw [hpv]; exact .inr q,fun a q=>⟨pτ a (hL a q).1,(hL a q).2⟩,fun b o nb nl e=>hext b o (fun q=>(nb q).elim) nl e,hg,ho,rfl⟩
 have S2:=Step.unhide (X:=P) (fun a q=>.inl q) np hk0 hg0 ho0 S Fg
 have Fg':Forget (fun a=>P a∧a≠D) L τ { τ with pv:=fun a=>t.pv a∨a=D,st:=t.st } s1 se :=
  ⟨rfl,rfl,fun a q=>q.elim (fun q=>⟨pτ a q,fun z=>nP a q z.1⟩) (fun q=>⟨by rw [hpv,q]; exact .inr pD,fun z=>z.2 q⟩),fun a q=>by rw [hpv]; exact .inr q.1,fun a q=>⟨pτ a (hL a q).1,(hL a q).2⟩,
   fun b o nb nl e=>hext b o (fun q=>Classical.byContradiction fun z=>nb ⟨q,z⟩) nl e,hg,ho,rfl⟩
 obtain ⟨c1,c2,-⟩:=R.cnt k _ (Nat.le_refl _)
 have A:=(R.forget Fg').adopt (k:=k) (o:=o) (pv':=t.pv) (.inr rfl) (fun a=>Iff.rfl) (fun q=>nP D q pD) hsys fun up=>hO _ (fun X v r=>up X v (VRel.forget Fg' X r)) (if_pos rfl)
 exact ⟨_,S2.own (l:=(k,st'.cnt k)) (np D pD) c1 c2,A.1,⟨D,rfl,if_pos rfl⟩,rfl,fun X v r=>VRel.map A.2.1 A.2.2 X (VRel.forget Fg' X r)⟩
theorem zax (hsys:D≠sysModules) {ys:Array Value}{vs:List V} (hD:PL s1.heap D ys) (hacc:VRels τ s1.heap vs ys.toList) (hsz:vs.length≤zf) (M:Option Nat) :
  ∃ t2,Step L t t2 σ se∧Rel G t2 (stM M st' vs) se∧VRel t2 se.heap (znu M st' vs) (.ref D)∧t2.pv=t.pv∧∀ (X:V) (v:Value),VRel τ s1.heap X v→VRel t2 se.heap X v:=by
 have hpv:τ.pv=(t.hide P).pv:=S.le.pv
 have nP:∀ a,t.pv a→¬ P a:=fun a q z=>by
  have:=R₁.live a (.inr q)
  rw [np a z] at this; exact qg this
 have hD':PL se.heap D ys:=let ⟨k,q⟩:=hD; ⟨k,hext D _ (fun _=>rfl) (fun q=>nP D (hL D q).1 pD) q⟩
 cases M with
 | none =>
  have pτ:∀ a,t.pv a→τ.pv a:=fun a q=>by rw [hpv]; exact .inl q
  have Fg:Forget P L τ { τ with pv:=t.pv,st:=t.st } s1 se :=
   ⟨rfl,rfl,fun a q=>⟨pτ a q,nP a q⟩,fun a q=>by rw [hpv]; exact .inr q,fun a q=>⟨pτ a (hL a q).1,(hL a q).2⟩,fun b o nb nl e=>hext b o (fun q=>(nb q).elim) nl e,hg,ho,rfl⟩
  refine ⟨_,Step.unhide (X:=P) (fun a q=>.inl q) np hk0 hg0 ho0 S Fg,R.forget Fg,⟨D,ys,rfl,hD',?_,hsz,VRels.forget Fg _ hacc⟩,rfl,fun X v r=>VRel.forget Fg X r⟩
  rintro (q | q)
  ·exact R.pv D (by rw [hpv]; exact .inr pD) q
  ·exact nP D q pD
 | some k=>exact znz R₁ np pD hk0 hg0 ho0 S R hL hext hg ho hsys fun t2 up hr=>⟨D,ys,hr,hD',hsz,VRels.all up hacc⟩
end
theorem za7 (hq:d.q=true) (O:G.Ok N) {M:Option Nat}{range:Bool}{slot:Nat}{it:E}{cond:Option E}{el:E}{elt iast j:PySem.Expr}{ifs:List PySem.Expr}{scope:Scope}{x:PySem.Str}{px pos:Pos}
  (K:CompOk sc scope slot Γ x) (hset:wx iast=true) (ha:IterAst sc range iast j) (hj:qb G C d sc Γ it j)
  (hcond:CondSim G C d (qi sc scope.names) (js (qi sc scope.names) Γ slot x) cond ifs) (hel:qb G C d (qi sc scope.names) (js (qi sc scope.names) Γ slot x) el elt) :
  qb G C d sc Γ (.comp M slot range it cond el) (.ListComp elt [⟨.Name x px,iast,ifs,0⟩] scope pos):=by
 intro t st s env loc X st' A hA hsc F R e Q E k
 rw [lr] at e
 obtain ⟨src,s1,e1,e⟩:=Res.bind_ok e
 split at e
 ·rename_i xs hx
  obtain ⟨vs,s2,e2,e⟩:=Res.bind_ok e
  obtain ⟨rfl,rfl⟩:X=znu M s2 vs∧st'=stM M s2 vs:=by cases M <;> (cases e; exact ⟨rfl,rfl⟩)
  rw [eval_ListComp]
  refine zd5 (use:=none) hq O hA hsc K hset ha hj hcond hel F R e1 hx e2 fun t1 σ1 Ca D se S1 R1 hsys ce=>?_
  obtain ⟨P,τ,s0,s1',ys,m,np,pC,pD,DC,hk0,hg0,ho0,S,Rr,Fr,hD,hacc,hsz,hn,hext,hg,ho⟩:=ce
  refine ⟨m,hn,fun h' hs=>?_⟩
  obtain ⟨t2,S2,R2,r2,-,-⟩:=zax (L:=noX) (se:={ se with heap:=h' }) R1 np pD hk0 hg0 ho0 S Rr (fun a z=>z.elim) (fun b o hb _ e=>(hs.2 b fun (z:b=Ca)=>DC (z ▸ hb (z ▸ pC)).symm).trans (hext b o (fun q=>.inr (hb q)) e)) hg ho hsys hD hacc hsz M
  exact k _ t2 _ (S1.trans S2) R2 r2
 ·exact zd e
end
end Mine
end
section
set_option maxRecDepth 100000
namespace Mine
open PySem PySem.W PyProof.Rows
noncomputable def own (env:Env):Addr→Prop:=fun a=>a=env.locals∨∃ n,env.cells.lookup n=some a
noncomputable def jy (Γ:Gam):Prop:=∀ (i j:Nat) (y:PySem.Str),Γ[i]?=some (some y)→Γ[j]?=some (some y)→i=j
section
variable {G:Gd}{N:Names}{C:Calls}{d:Dp}{sc:Sc}{Γ:Gam}{A:Around}{t:Tie}{st st':MS}{s:Shared}{env:Env}{loc:Loc}{X Y Z:V}{v w:Value}
theorem FrOk.ownPv (F:FrOk G A t env Γ loc s):∀ a,own env a→t.pv a:=by
 rintro a (rfl | ⟨n,h⟩)
 ·exact F.pvl
 ·exact F.pvc n a h
theorem FrOk.noClass (F:FrOk G A t env Γ loc s):(env.scope.kind == .class || (env.scope.kind == .module && env.locals != env.globals))=false:=by rw [F.fn]; rfl
theorem ri {h:Heap}{a c:Addr}{m:PySem.Str→Option Value}{o:Option Value} (hn:h.Ns a m) (hc:h.IsCell c o):c≠a:=fun z=>by
 obtain ⟨ob,es,ep,h1,h2,_⟩:=hn
 obtain ⟨oc,h3,h4⟩:=hc
 rw [z,h1] at h3
 cases h3
 rw [h2] at h4
 cases h4
theorem zd9 {h:Heap}{a:Addr}{m:PySem.Str→Option Value} (hn:h.Ns a m):(h.get? a).isSome=true:=by obtain ⟨o,_,_,z,_⟩:=hn; rw [z]; rfl
theorem o9 {h:Heap}{c:Addr}{o:Option Value} (hc:h.IsCell c o):(h.get? c).isSome=true:=by obtain ⟨o,z,_⟩:=hc; rw [z]; rfl
theorem zat {h:Heap}{a:Addr}{m:PySem.Str→Option Value}{o:Obj} (hn:h.Ns a m) (e:h.get? a=some o) (vs:Array Value):o.data≠.fields vs:=fun z=>by
 obtain ⟨ob,es,ep,h1,h2,_⟩:=hn
 cases h1.symm.trans e
 cases h2.symm.trans z
theorem fj {h:Heap}{c:Addr}{u:Option Value}{o:Obj} (hc:h.IsCell c u) (e:h.get? c=some o) (vs:Array Value):o.data≠.fields vs:=fun z=>by
 obtain ⟨ob,h1,h2⟩:=hc
 cases h1.symm.trans e
 cases h2.symm.trans z
theorem lq {h h':Heap}{a:Addr}{m:PySem.Str→Option Value} (hk:∀ o,h.get? a=some o→h'.get? a=some o) (hn:h.Ns a m):h'.Ns a m:=by
 obtain ⟨o,es,ep,h1,h2⟩:=hn
 exact ⟨o,es,ep,hk o h1,h2⟩
theorem pg {h h':Heap}{a:Addr}{u:Option Value} (hk:∀ o,h.get? a=some o→h'.get? a=some o) (hn:h.IsCell a u):h'.IsCell a u:=by
 obtain ⟨o,h1,h2⟩:=hn
 exact ⟨o,hk o h1,h2⟩
theorem zqb {loc:Loc}{i:Nat} (e:(loc.set i (some X))[i]?=some (some Y)):Y=X:=by
 by_cases h:i < loc.length
 ·rw [List.getElem?_set_self h] at e; cases e; rfl
 ·rw [List.getElem?_eq_none (by rw [List.length_set]; exact Nat.le_of_not_lt h)] at e; exact za e
theorem du {At At':PySem.Str→Value→Prop}{h h':Heap}{t':Tie} (gi:jy Γ) {i:Nat}{y:PySem.Str} (hi:Γ[i]?=some (some y)) (hs:∀ (j:Nat) (x:PySem.Str) (Y:V),Γ[j]?=some (some x)→loc[j]?=some (some Y)→∃ u,VRel t h Y u∧At x u) (r:VRel t' h' X v) (hy:At' y v)
  (ho:∀ x u,x≠y→At x u→At' x u) (up:∀ Y u,VRel t h Y u→VRel t' h' Y u) (j:Nat) (x:PySem.Str) (Y:V) (e1:Γ[j]?=some (some x)) (e2:(loc.set i (some X))[j]?=some (some Y)):∃ u,VRel t' h' Y u∧At' x u:=by
 by_cases z:j=i
 ·subst z
  cases hi.symm.trans e1
  cases zqb e2
  exact ⟨v,r,hy⟩
 ·rw [List.getElem?_set_ne (fun e=>z e.symm)] at e2
  obtain ⟨u,u1,u2⟩:=hs j x Y e1 e2
  exact ⟨u,up _ _ u1,ho x u (fun e=>z (gi j i y (e ▸ e1) hi)) u2⟩
theorem zb2 (F:FrOk G A t env Γ loc s) (R:Rel G t st s) (gi:jy Γ) {i:Nat}{y:PySem.Str} (hi:Γ[i]?=some (some y)) (hk:env.kindOf y=some .local) (r:VRel t s.heap X v) {Q:Unit→Shared→Prop}{E':Value→Shared→Prop}
  (q:∀ s',Step (own env) t t s s'→Rel G t st s'→FrOk G A t env Γ (loc.set i (some X)) s'→Q () s'):wpAny G.M A (storeName env y v) Q E' s:=by
 obtain ⟨m,cm,hn,hcc,hz,hs⟩:=F.ex
 refine wpAny_storeName_local hk hn (fun h' hn' hs'=>?_) F.noClass
 have hl:=zd9 hn'
 have S:Step (own env) t t s { s with heap:=h',toks:=s.toks + 1 }:=Step.priv (.inl rfl) hl hs'
 have sk:Stk A t h':=F.sk.step R (Step.priv (X:=(·=env.locals)) (tk:=s.toks + 1) rfl hl hs') fun a x _ o e=>by subst x; exact zat hn' e
 exact q _ S (R.priv F.pvl hl hs') ⟨sk,F.fn,F.gl,F.bl,F.pvl,F.pvc,F.apart,_,cm,hn',fun n c e=>pg (fun o h=>(hs'.2 c (ri hn (hcc n c e))).trans h) (hcc n c e),hz,
  du (At':=fun x u=>(env.kindOf x=some .local∧(if x=y then some v else m x)=some u)∨(env.kindOf x=some .cell∧cm x=some u)) gi hi hs (VRel.step S F.ownPv _ r) (.inl ⟨hk,if_pos rfl⟩) (fun x u hne p=>p.imp (fun p=>⟨p.1,(if_neg hne).trans p.2⟩) id) fun Y u=>VRel.step S F.ownPv Y⟩
theorem zdn (F:FrOk G A t env Γ loc s) (R:Rel G t st s) (gi:jy Γ) {i:Nat}{y:PySem.Str} (hi:Γ[i]?=some (some y)) (hk:env.kindOf y=some .cell) (r:VRel t s.heap X v) {Q:Unit→Shared→Prop}{E':Value→Shared→Prop}
  (q:∀ s',Step (own env) t t s s'→Rel G t st s'→FrOk G A t env Γ (loc.set i (some X)) s'→Q () s'):wpAny G.M A (storeName env y v) Q E' s:=by
 obtain ⟨m,cm,hn,hcc,hz,hs⟩:=F.ex
 obtain ⟨c,hcl⟩:=Option.isSome_iff_exists.mp (hz y hk)
 have hc:=hcc y c hcl
 have hne:=ri hn hc
 refine wpAny_storeName_cell F.fn hk hcl hc fun h' hc' hs'=>?_
 have hl:=o9 hc'
 have S:Step (own env) t t s { s with heap:=h',toks:=s.toks }:=Step.priv (.inr ⟨y,hcl⟩) hl hs'
 have sk:Stk A t h':=F.sk.step R (Step.priv (X:=(·=c)) (tk:=s.toks) rfl hl hs') fun a x _ o e=>by subst x; exact fj hc' e
 refine q _ S (R.priv (F.pvc y c hcl) hl hs') ⟨sk,F.fn,F.gl,F.bl,F.pvl,F.pvc,F.apart,m,fun n=>if n=y then some v else cm n,lq (fun o h=>(hs'.2 _ hne.symm).trans h) hn,fun n c' e=>?_,hz,
  du (At':=fun x u=>(env.kindOf x=some .local∧m x=some u)∨(env.kindOf x=some .cell∧(if x=y then some v else cm x)=some u)) gi hi hs (VRel.step S F.ownPv _ r) (.inr ⟨hk,if_pos rfl⟩) (fun x u hne p=>p.imp id fun p=>⟨p.1,(if_neg hne).trans p.2⟩) fun Y u=>VRel.step S F.ownPv Y⟩
 by_cases z:n=y
 ·subst z
  cases hcl.symm.trans e
  show Heap.IsCell h' c (if n=n then some v else cm n)
  rw [if_pos rfl]; exact hc'
 ·show Heap.IsCell h' c' (if n=y then some v else cm n)
  rw [if_neg z]
  exact pg (fun o h=>(hs'.2 c' fun q=>z (F.apart n y c (q ▸ e) hcl)).trans h) (hcc n c' e)
theorem cv (F:FrOk G A t env Γ loc s) (R:Rel G t st s) (gi:jy Γ) {i:Nat}{y:PySem.Str} (hi:Γ[i]?=some (some y)) (hk:env.kindOf y=some .local∨env.kindOf y=some .cell) (r:VRel t s.heap X v) {Q:Unit→Shared→Prop}{E':Value→Shared→Prop}
  (q:∀ s',Step (own env) t t s s'→Rel G t st s'→FrOk G A t env Γ (loc.set i (some X)) s'→Q () s'):wpAny G.M A (storeName env y v) Q E' s :=
 hk.elim (fun hk=>zb2 F R gi hi hk r q) fun hk=>zdn F R gi hi hk r q
noncomputable def zoe (A:Around) (env:Env):Prop:=∃ outer,A.frames=some (env :: outer)∧env.frame=some env.locals
noncomputable def bp (t:Tie) (h:Heap):Fl→Flow→Prop
 | .next,f=>f=.next
 | .ret X,f=>∃ v,f=.ret v∧VRel t h X v
noncomputable def SimF (G:Gd) (A:Around) (env:Env) (Γ:Gam) (t:Tie) (s:Shared) (tree:Sem Flow) (st':MS) (fl:Fl) (loc':Loc):Prop :=
 ∀ (Q:Flow→Shared→Prop) (E:Value→Shared→Prop),(∀ f t' s',Step (own env) t t' s s'→Rel G t' st' s'→FrOk G A t' env Γ loc' s'→bp t' s'.heap fl f→Q f s')→wpAny G.M A tree Q E s
noncomputable def bo (G:Gd) (C:Calls) (d:Dp) (sc:Sc) (Γ:Gam) (n:Nat) (x:S) (ast:Stmt):Prop :=
 ∀ t st s env loc fl loc' st' A,AOk d A→zoe A env→env.scope.names=sc→FrOk G A t env Γ loc s→Rel G t st s→ex G.P C n x loc st=.ok (fl,loc') st'→SimF G A env Γ t s (exec ast env) st' fl loc'
noncomputable def mv (G:Gd) (C:Calls) (d:Dp) (sc:Sc) (Γ:Gam) (n:Nat) (l:List S) (m:List Stmt):Prop :=
 ∀ t st s env loc fl loc' st' A,AOk d A→zoe A env→env.scope.names=sc→FrOk G A t env Γ loc s→Rel G t st s→exs G.P C n l loc st=.ok (fl,loc') st'→SimF G A env Γ t s (execs m env) st' fl loc'
variable {n:Nat}
theorem SimF.ofE {A:Around}{tree:Sem Flow}{fl:Fl}{loc':Loc}{t1:Tie}{s1:Shared} (S:Step noX t t1 s s1) (h:SimF G A env Γ t1 s1 tree st' fl loc') {Q:Flow→Shared→Prop}{E':Value→Shared→Prop}
  (k:∀ f t' s',Step (own env) t t' s s'→Rel G t' st' s'→FrOk G A t' env Γ loc' s'→bp t' s'.heap fl f→Q f s'):wpAny G.M A tree Q E' s1 :=
 h Q E' fun f t' s' S' R' F' r=>k f t' s' ((S.mono fun _ z=>z.elim).trans S') R' F' r
theorem zlv:mv G C d sc Γ n [] []:=by
 intro t st s env loc fl loc' st' A hA hT hsc F R e Q E k
 simp only [zdv,vj] at e
 cases e
 exact wpAny_execs_nil (k _ t s (.refl _ _ _) R F rfl)
theorem zgy {x:S}{l:List S}{ast:Stmt}{m:List Stmt} (h1:bo G C d sc Γ n x ast) (h2:mv G C d sc Γ n l m):mv G C d sc Γ n (x :: l) (ast :: m):=by
 intro t st s env loc fl loc' st' A hA hT hsc F R e Q E k
 simp only [zdv,vj] at e
 obtain ⟨⟨f1,l1⟩,s1,e1,e⟩:=Res.bind_ok e
 refine wpAny_execs_cons (h1 t st s env loc f1 l1 s1 A hA hT hsc F R e1 _ _ fun f t1 σ1 S1 R1 F1 r1=>?_)
 cases f1 with
 | next =>
  have r1:f=.next:=r1
  subst r1
  exact h2 t1 s1 σ1 env l1 fl loc' st' A hA hT hsc F1 R1 e _ _ fun f t2 σ2 S2 R2 F2 r2=>k f t2 σ2 (S1.trans S2) R2 F2 r2
 | ret X =>
  obtain ⟨v,rfl,r⟩:=r1
  cases e
  exact k _ t1 σ1 S1 R1 F1 ⟨v,rfl,r⟩
noncomputable def w4 (x:PySem.Expr):Bool:=!(Nat.beq x.ctorIdx 8 || Nat.beq x.ctorIdx 9 || Nat.beq x.ctorIdx 10)
theorem dm {e:PySem.Expr} (h:w4 e=true) (tg:Option PySem.Expr) (ln:Nat) (env:Env):swapsWith e tg ln env=pure false:=by
 cases e <;> first | rfl | exact qg h
theorem zg0 {a:E}{x:PySem.Expr}{pos:Pos} (hx:w4 x=true) (ha:qb G C d sc Γ a x):bo G C d sc Γ n (.expr a) (.Expr x pos):=by
 intro t st s env loc fl loc' st' A hA hT hsc F R e Q E k
 rw [zd8] at e
 obtain ⟨V,s1,e1,e⟩:=Res.bnd_ok e
 cases e
 refine wpAny_Expr_any (ha t st s env loc _ _ A hA hsc F R e1 _ _ fun v t1 σ1 S1 R1 r1=>?_) (by unfold interactive; rw [F.fn]; rfl) (dm hx _ _ _)
 exact k _ t1 σ1 (S1.mono fun _ z=>z.elim) R1 (F.step R S1) rfl
theorem ze3 {pos:Pos}:bo G C d sc Γ n (.ret none) (.Return none pos):=by
 intro t st s env loc fl loc' st' A hA hT hsc F R e Q E k
 rw [zcb] at e
 cases e
 exact wpAny_Return_none (k _ t s (.refl _ _ _) R F ⟨_,rfl,rfl⟩)
theorem zjp {a:E}{x:PySem.Expr}{pos:Pos} (ha:qb G C d sc Γ a x):bo G C d sc Γ n (.ret (some a)) (.Return (some x) pos):=by
 intro t st s env loc fl loc' st' A hA hT hsc F R e Q E k
 rw [zcb] at e
 obtain ⟨V,s1,e1,e⟩:=Res.bnd_ok e
 cases e
 refine wpAny_Return_some (ha t st s env loc _ _ A hA hsc F R e1 _ _ fun v t1 σ1 S1 R1 r1=>?_)
 exact k _ t1 σ1 (S1.mono fun _ z=>z.elim) R1 (F.step R S1) ⟨v,rfl,r1⟩
noncomputable def vz (sc:Sc) (y:PySem.Str):Bool:=sc.lookup y == some .local || sc.lookup y == some .cell
theorem ui (hsc:env.scope.names=sc) {y:PySem.Str} (h:vz sc y=true):env.kindOf y=some .local∨env.kindOf y=some .cell:=by
 unfold Env.kindOf; rw [hsc]
 simpa [vz] using h
theorem za1 (gi:jy Γ) {i:Nat}{y:PySem.Str}{a:E}{x:PySem.Expr}{yp pos:Pos} (hi:Γ[i]?=some (some y)) (hk:vz sc y=true) (hx:w4 x=true) (ha:qb G C d sc Γ a x):bo G C d sc Γ n (.assign i a) (.Assign [.Name y yp] x pos):=by
 intro t st s env loc fl loc' st' A hA hT hsc F R e Q E k
 rw [pn] at e
 obtain ⟨V,s1,e1,e⟩:=Res.bnd_ok e
 split at e
 case isFalse=>exact zd e
 cases e
 refine wpAny_Assign_Name (ha t st s env loc _ _ A hA hsc F R e1 _ _ fun v t1 σ1 S1 R1 r1=>?_) (dm hx _ _ _)
 exact cv (F.step R S1) R1 gi hi (ui hsc hk) r1 fun σ2 S2 R2 F2=>k _ t1 σ2 ((S1.mono fun _ z=>z.elim).trans S2) R2 F2 rfl
theorem zco (e o:PySem.Expr) (a:PySem.Str) (p:Pos) (ln:Nat) (env:Env):swapsWith e (some (.Attribute o a p)) ln env=pure false:=by cases e <;> rfl
theorem ah (O:G.Ok N) (hcl:∀ c Ca,G.ca c=some Ca→ClsOk G Ca) {i:Nat}{a b:E}{x y:PySem.Expr}{ap pos:Pos} (hi:i < 13) (ha:qb G C d sc Γ a x) (hb:qb G C d sc Γ b y):bo G C d sc Γ n (.setattr a i b) (.Assign [.Attribute x (G.an i) ap] y pos):=by
 intro t st s env loc fl loc' st' A hA hT hsc F R e Q E k
 rw [ly] at e
 obtain ⟨V,s1,e1,e⟩:=Res.bnd_ok e
 obtain ⟨U,s2,e2,e⟩:=Res.bnd_ok e
 obtain ⟨u,s3,e3,e⟩:=Res.bnd_ok e
 cases e
 refine plainObj_wpAny_Assign_Attribute (hb t st s env loc _ _ A hA hsc F R e1 _ _ fun v t1 σ1 S1 R1 r1=>?_) (zco _ _ _ _ _ _)
 refine ha t1 s1 σ1 env loc _ _ A hA hsc (F.step R S1) R1 e2 _ _ fun w t2 σ2 S2 R2 r2=>?_
 refine n7 O hcl hi R2 r2 (VRel.step S2 (fun _ z=>z.elim) _ r1) e3 _ _ fun _ t3 σ3 S3 R3 _=>?_
 exact k _ t3 σ3 ((((S1.trans S2).trans S3)).mono fun _ z=>z.elim) R3 (((F.step R S1).step R1 S2).step R2 S3) rfl
theorem ao {a b c:E}{x y z:PySem.Expr}{ap pos:Pos} (hz:w4 z=true) (ha:qb G C d sc Γ a x) (hb:qb G C d sc Γ b y) (hc:qb G C d sc Γ c z):bo G C d sc Γ n (.setitem a b c) (.Assign [.Subscript x y ap] z pos):=by
 intro t st s env loc fl loc' st' A hA hT hsc F R e Q E k
 rw [d0] at e
 obtain ⟨V,s1,e1,e⟩:=Res.bnd_ok e
 obtain ⟨U,s2,e2,e⟩:=Res.bnd_ok e
 obtain ⟨W,s3,e3,e⟩:=Res.bnd_ok e
 obtain ⟨u,s4,e4,e⟩:=Res.bnd_ok e
 cases e
 refine wpAny_Assign_Subscript (hc t st s env loc _ _ A hA hsc F R e1 _ _ fun v t1 σ1 S1 R1 r1=>?_) (dm hz _ _ _)
 have F1:=F.step R S1
 refine ha t1 s1 σ1 env loc _ _ A hA hsc F1 R1 e2 _ _ fun w t2 σ2 S2 R2 r2=>?_
 have F2:=F1.step R1 S2
 refine hb t2 s2 σ2 env loc _ _ A hA hsc F2 R2 e3 _ _ fun i t3 σ3 S3 R3 r3=>?_
 have F3:=F2.step R2 S3
 refine br R3 (VRel.step S3 (fun _ z=>z.elim) _ r2) r3 (VRel.step (S2.trans S3) (fun _ z=>z.elim) _ r1) e4 _ _ fun _ t4 σ4 S4 R4 _=>?_
 exact k _ t4 σ4 ((((S1.trans S2).trans S3).trans S4).mono fun _ z=>z.elim) R4 (F3.step R3 S4) rfl
theorem zir {c:E}{b1 b2:List S}{x:PySem.Expr}{m1 m2:List Stmt}{pos:Pos} (hc:bz G C d sc Γ c x) (h1:mv G C d sc Γ n b1 m1) (h2:mv G C d sc Γ n b2 m2):bo G C d sc Γ n (.ite c b1 b2) (.If x m1 m2 pos):=by
 intro t st s env loc fl loc' st' A hA hT hsc F R e Q E k
 rw [zix] at e
 obtain ⟨V,s1,e1,e⟩:=Res.bnd_ok e
 obtain ⟨b,s2,e2,e⟩:=Res.bnd_ok e
 obtain ⟨rfl,rfl⟩:=xa e2
 refine wpAny_If (hc t st s env loc b _ A hA hsc F R e1 _ _ fun b' t1 σ1 S1 R1 r1=>?_)
 subst r1
 cases b' with
 | true =>
  simp only [if_true] at e ⊢
  exact SimF.ofE S1 (h1 t1 _ σ1 env loc fl loc' st' A hA hT hsc (F.step R S1) R1 e) k
 | false =>
  simp only [Bool.false_eq_true,if_false] at e ⊢
  exact SimF.ofE S1 (h2 t1 _ σ1 env loc fl loc' st' A hA hT hsc (F.step R S1) R1 e) k
end
end Mine
end
section
set_option maxRecDepth 100000
namespace Mine
open PySem PySem.W PyProof.Rows
section
variable {G:Gd}{N:Names}{C:Calls}{d:Dp}{sc:Sc}{Γ:Gam}{A:Around}{t:Tie}{st st':MS}{s:Shared}{env:Env}{loc:Loc}{X Y Z:V}{v w:Value}{n:Nat}
inductive TgtOk (G:Gd) (C:Calls) (d:Dp) (sc:Sc) (Γ:Gam):T→PySem.Expr→Prop
 | loc {i:Nat}{y:PySem.Str}{p:Pos} (hi:Γ[i]?=some (some y)) (hk:vz sc y=true):TgtOk G C d sc Γ (.loc i) (.Name y p)
 | item {a b:E}{x y:PySem.Expr}{p:Pos} (ha:qb G C d sc Γ a x) (hb:qb G C d sc Γ b y):TgtOk G C d sc Γ (.item a b) (.Subscript x y p)
inductive TgtsOk (G:Gd) (C:Calls) (d:Dp) (sc:Sc) (Γ:Gam):List T→List PySem.Expr→Prop
 | nil:TgtsOk G C d sc Γ [] []
 | cons {tg:T}{l:List T}{x:PySem.Expr}{m:List PySem.Expr}:TgtOk G C d sc Γ tg x→TgtsOk G C d sc Γ l m→TgtsOk G C d sc Γ (tg :: l) (x :: m)
inductive ForTgt (G:Gd) (C:Calls) (d:Dp) (sc:Sc) (Γ:Gam):T ⊕ List T→PySem.Expr→Prop
 | one {tg:T}{x:PySem.Expr}:TgtOk G C d sc Γ tg x→ForTgt G C d sc Γ (.inl tg) x
 | many {ts:List T}{xs:List PySem.Expr}{k:Nat}{p:Pos}:TgtsOk G C d sc Γ ts xs→ForTgt G C d sc Γ (.inr ts) (.Tuple xs k p)
theorem zdu {o i:PySem.Expr}{pos':Pos}{v:Value}{Q:Unit→Shared→Prop}{E':Value→Shared→Prop}
  (h:wpAny G.M A (eval o env) (fun ov s₂=>wpAny G.M A (eval i env) (fun iv s₃=>wpAny G.M A (PySem.setItem ov iv v) Q E' s₃) E' s₂) E' s):wpAny G.M A (assign (.Subscript o i pos') env v) Q E' s:=fun Δ p hΔ=>by
 obtain ⟨rl,e⟩:∃ rl:Value→Value→List Value,assign (.Subscript o i pos') env v=(do
   let ov ← holding [v] (eval o env)
   let iv ← holding [v,ov] (eval i env)
   standAt pos'
   holding [v,ov,iv] (PySem.setItem ov iv v)
   release (rl ov iv) []):=⟨_,PySem.assign_Subscript o i pos' v⟩
 simp only [e,Sem.wp_bind',Sem.wp_holding,Sem.wp_cmd_standAt,Sem.wp_release]
 exact Sem.wp_mono _ Δ _ (fun ov p₂ s₂ h₂=>Sem.wp_mono _ Δ _ (fun iv _ s₃ h₃=>h₃ Δ _ hΔ) (fun _ _ _ h'=>h') _ _ (h₂ Δ p₂ hΔ)) (fun _ _ _ h'=>h') _ _ (h Δ _ hΔ)
noncomputable def zpe (G:Gd) (A:Around) (env:Env) (Γ:Gam) (t:Tie) (s:Shared) (tree:Sem Unit) (st':MS) (loc':Loc):Prop :=
 ∀ {Q:Unit→Shared→Prop}{E':Value→Shared→Prop},(∀ t' s',Step (own env) t t' s s'→Rel G t' st' s'→FrOk G A t' env Γ loc' s'→Q () s')→wpAny G.M A tree Q E' s
theorem zj2 (gi:jy Γ) (hA:AOk d A) {tg:T}{x:PySem.Expr} (h:TgtOk G C d sc Γ tg x) (hsc:env.scope.names=sc) (F:FrOk G A t env Γ loc s) (R:Rel G t st s) (r:VRel t s.heap X v) {loc':Loc} (e:zhj G.P C tg X loc st=.ok loc' st'):zpe G A env Γ t s (assign x env v) st' loc':=by
 intro Q E' q
 cases h with
 | loc hi hk =>
  simp only [zhj] at e
  split at e
  case isFalse=>exact zd e
  cases e
  exact wpAny_assign_Name (cv F R gi hi (ui hsc hk) r (q t))
 | item ha hb =>
  obtain ⟨U,s2,e2,e⟩:=Res.bind_ok e
  obtain ⟨W,s3,e3,e⟩:=Res.bind_ok e
  obtain ⟨u,s4,e4,e⟩:=Res.bind_ok e
  cases e
  refine zdu (ha t st s env loc _ _ A hA hsc F R e2 _ _ fun w t2 σ2 S2 R2 r2=>?_)
  have F2:=F.step R S2
  refine hb t2 s2 σ2 env loc _ _ A hA hsc F2 R2 e3 _ _ fun i t3 σ3 S3 R3 r3=>?_
  refine br R3 (VRel.step S3 (fun _ z=>z.elim) _ r2) r3 (VRel.step (S2.trans S3) (fun _ z=>z.elim) _ r) e4 _ _ fun _ t4 σ4 S4 R4 _=>?_
  exact q t4 σ4 (((S2.trans S3).trans S4).mono fun _ z=>z.elim) R4 ((F2.step R2 S3).step R3 S4)
theorem ze8 {ts:List T}{xs:List PySem.Expr} (h:TgtsOk G C d sc Γ ts xs) (env:Env):(assignEach xs env).map (·.2)=xs.map (fun x=>assign x env)∧(assignEach xs env).findIdx? (·.1)=none∧(assignEach xs env).length=ts.length:=by
 induction h with
 | nil=>exact ⟨rfl,rfl,rfl⟩
 | @cons tg l x m h1 h2 ih =>
  have e:assignEach (x :: m) env=(false,assign x env) :: assignEach m env:=by cases h1 <;> rfl
  rw [e]
  exact ⟨by rw [List.map_cons,ih.1]; rfl,by rw [List.findIdx?_cons,ih.2.1]; rfl,by rw [List.length_cons,ih.2.2]; rfl⟩
theorem zon (gi:jy Γ) (hA:AOk d A) (hsc:env.scope.names=sc) {ts:List T}{xs:List PySem.Expr} (h:TgtsOk G C d sc Γ ts xs):∀ {Xs:List V}{vs:List Value}{loc loc':Loc}{t:Tie}{st:MS}{s:Shared},FrOk G A t env Γ loc s→Rel G t st s→VRels t s.heap Xs vs→td G.P C ts Xs loc st=.ok loc' st' →
  zpe G A env Γ t s (assignInOrder (xs.map fun x=>assign x env) vs) st' loc':=by
 induction h with
 | nil =>
  intro Xs vs loc loc' t st s F R r e Q E' q
  cases Xs with
  | nil=>cases e; cases r; exact assignInOrder_nil (q t s (.refl _ _ _) R F)
  | cons a l=>exact zd e
 | cons h1 h2 ih =>
  intro Xs vs loc loc' t st s F R r e Q E' q
  cases Xs with
  | nil=>exact zd e
  | cons a l =>
   obtain ⟨v,r',rfl,ra,rl⟩:=r
   obtain ⟨l1,s1,e1,e⟩:=Res.bind_ok (show (zhj _ _ _ a loc st).bind (fun l' s=>td _ _ _ l l' s)=_ from e)
   refine assignInOrder_cons (zj2 gi hA h1 hsc F R ra e1 fun t1 σ1 S1 R1 F1=>?_)
   exact ih F1 R1 (VRels.step S1 F.ownPv _ rl) e fun t2 σ2 S2 R2 F2=>q t2 σ2 (S1.trans S2) R2 F2
theorem om (hq:d.q=true) (gi:jy Γ) (hA:AOk d A) (hsc:env.scope.names=sc) {ts:List T}{xs:List PySem.Expr}{k:Nat}{p:Pos} (h:TgtsOk G C d sc Γ ts xs) (F:FrOk G A t env Γ loc s) (R:Rel G t st s) (r:VRel t s.heap X v) {loc':Loc} (e:ls G.P C ts X loc st=.ok loc' st'):zpe G A env Γ t s (assign (.Tuple xs k p) env v) st' loc':=by
 intro Q E' q
 cases X with
 | tup Xs =>
  simp only [ls] at e
  obtain ⟨a,vs,rfl,io,na,sz,rr⟩:=r
  obtain ⟨h1,h2,h3⟩:=ze8 h env
  have hlen:∀ {ts:List T}{Xs:List V}{loc loc':Loc}{st st':MS},td G.P C ts Xs loc st=.ok loc' st'→ts.length=Xs.length:=by
   intro ts
   induction ts with
   | nil=>intro Xs loc loc' st st' e; cases Xs with | nil=>rfl | cons _ _=>exact zd e
   | cons a l ih =>
    intro Xs loc loc' st st' e
    cases Xs with
    | nil=>exact zd e
    | cons b m =>
     obtain ⟨_,_,_,e⟩:=Res.bind_ok (show (zhj _ _ a b loc st).bind (fun l' s=>td _ _ l m l' s)=_ from e)
     simp [ih e]
  refine wpAny_assign_Tuple (hA.hd hq) io.isTuple (by rw [h3,hlen e,j0 rr]) h2 fun h' hext=>?_
  rw [h1]
  have hk:∀ b o,s.heap.get? b=some o→h'.get? b=some o:=fun b o e=>hext b o (fun z=>by rw [z,qv] at e; exact za e) e
  have S0:Step noX t t s { s with heap:=h' }:=Step.grow R hk rfl rfl
  exact zon gi hA hsc h (F.step R S0) (R.grow hk rfl rfl) (VRels.step S0 (fun _ z=>z.elim) _ rr) e fun t2 σ2 S2 R2 F2=>q t2 σ2 ((S0.mono fun _ z=>z.elim).trans S2) R2 F2
 | _=>exact zd e
theorem Stk.back {t₁:Tie}{h h' h₁:Heap}{pv:Addr→Prop} (K:Stk A t h) (K1:Stk A t₁ h₁) (hs:t.st=t₁.st) (hp:pv=t₁.pv) {l:List Env} (hl:l=t₁.st) (hx:∀ L o,t₁.pv L→h.get? L=some o→h'.get? L=some o):Stk A { t with pv:=pv,st:=l } h' :=
 ⟨by rw [K.fr,hs,hl],fun e he=>by
  have he:e∈t₁.st:=hl ▸ he
  obtain ⟨h1,L,o,h2,h3,h4,h5⟩:=K.ob e (hs ▸ he)
  obtain ⟨-,L',o',g2,g3,-⟩:=K1.ob e he
  rw [h2] at g2; cases g2
  exact ⟨h1,L,o,h2,hp ▸ g3,hx L o g3 h4,h5⟩⟩
theorem FrOk.forget {P L:Addr→Prop}{t₁ t₂:Tie}{s₁ s₂:Shared} (Fg:Forget P L t₁ t₂ s₁ s₂) (F:FrOk G A t₁ env Γ loc s₁) (hp:∀ a,own env a→t₂.pv a) (ho:∀ a o,own env a→s₁.heap.get? a=some o→s₂.heap.get? a=some o) (sk:Stk A t₂ s₂.heap):FrOk G A t₂ env Γ loc s₂:=by
 obtain ⟨m,cm,⟨o,es,ep,hl,r⟩,hcc,hz,hs⟩:=F.ex
 refine ⟨sk,F.fn,F.gl,F.bl,hp _ (.inl rfl),fun n c h=>hp _ (.inr ⟨n,h⟩),F.apart,m,cm,⟨o,es,ep,ho _ _ (.inl rfl) hl,r⟩,fun n c e=>?_,hz,fun i x X e1 e2=>?_⟩
 ·obtain ⟨oc,h1,h2⟩:=hcc n c e
  exact ⟨oc,ho _ _ (.inr ⟨n,e⟩) h1,h2⟩
 ·obtain ⟨v,hv,r⟩:=hs i x X e1 e2
  exact ⟨v,VRel.forget Fg X hv,r⟩
theorem s7 {elts:List PySem.Expr}{k:Nat}{pos:Pos}{I l T:Addr}{i:Nat}{Q:Unit→Shared→Prop}{E:Value→Shared→Prop} (hit:s.heap.IsTupleIter I l i) (hQ:Q () s) :
  wpAny G.M A (letOwnedTupleGo (.Tuple elts k pos) (.ref I) (.ref T)) Q E s:=by
 obtain ⟨o,ho,hc,hd⟩:=hit
 unfold letOwnedTupleGo
 refine wpAny_bind (wpAny_load ho ?_)
 rw [hc,hd]
 exact wpAny_pure hQ
theorem znm (hq:d.q=true) (gi:jy Γ) (hA:AOk d A) {ts:T ⊕ List T}{tast:PySem.Expr} (ht:ForTgt G C d sc Γ ts tast) (hsc:env.scope.names=sc) {s1:MS}{range:Bool}{src:V} (hfo:ty ts range src s1=true) {I:Addr}{i:Nat} (FA:FrOk G A t env Γ loc s) (RA:Rel G t st s) (rv:VRel t s.heap X v)
  (hIA:ItOk G s1 t s I range src i) {loc':Loc} (e2:u0 G.P C ts X loc st=.ok loc' st') {Q':Unit→Shared→Prop}{E':Value→Shared→Prop} (q:∀ t' s',Step (own env) t t' s s'→Rel G t' st' s'→FrOk G A t' env Γ loc' s'→Q' () s') :
  wpAny G.M A (letOwnedTupleGo tast (.ref I) v) (fun _ s'=>wpAny G.M A (assign tast env v) Q' E' s') E' s:=by
 cases ht with
 | one h =>
  have hl:letOwnedTupleGo tast (.ref I) v=pure ():=by cases h <;> rfl
  rw [hl]
  exact wpAny_pure (zj2 gi hA h hsc FA RA rv e2 q)
 | many h =>
  obtain ⟨hr,hfs⟩:=Bool.and_eq_true_iff.1 (hfo:(!range && (zv s1 src).isSome)=true)
  cases range with
  | true=>exact qg hr
  | false =>
  cases X with
  | tup Xs =>
   obtain ⟨a',vs,rfl,io⟩:=id rv
   rcases hIA with ⟨kk,l,a,es,r,hli⟩ | ⟨r,dd,a,kvs,ep,rfl,es,_⟩ | ⟨x,St,rfl,_⟩
   ·cases kk with
    | true=>exact wpAny_letOwnedTupleGo_listiter (show Heap.IsListIter _ I a _ from hli) (om hq gi hA hsc h FA RA rv e2 q)
    | false=>exact s7 (show Heap.IsTupleIter _ I a _ from hli) (om hq gi hA hsc h FA RA rv e2 q)
   ·cases hz:zv s1 (.ref r) with
    | none=>rw [hz] at hfs; exact qg hfs
    | some p=>rw [fk hz] at es; exact za es
   ·exact qg hfs
  | _=>exact zd e2
theorem zeh {a b:Fl}{l m:Loc}{s t:MS} (e:Res.ok (a,l) s=Res.ok (b,m) t):a=b∧l=m∧s=t:=by cases e; exact ⟨rfl,rfl,rfl⟩
theorem dc {st₀:MS}{range:Bool}{src:V}{tg:V→Loc→MS→Res Loc}{bd:Loc→MS→Res (Fl×Loc)}{l l':Loc}{s s':MS}{fl:Fl} (e:jc st₀ range src tg bd [] l s=.ok (fl,l') s'):stays st₀ s range src=true∧.next=fl∧l=l'∧s=s':=by
 rw [vq] at e
 obtain ⟨h,e⟩:=jw e
 exact ⟨h,zeh e⟩
theorem mw {st₀:MS}{range:Bool}{src x:V}{xs:List V}{tg:V→Loc→MS→Res Loc}{bd:Loc→MS→Res (Fl×Loc)}{l l':Loc}{s s':MS}{fl:Fl} (e:jc st₀ range src tg bd (x :: xs) l s=.ok (fl,l') s') :
  stays st₀ s range src=true∧∃ l2 s2 f3 l3 s3,tg x l s=.ok l2 s2∧bd l2 s2=.ok (f3,l3) s3∧(match f3 with | .next=>jc st₀ range src tg bd xs l3 s3 | .ret v=>.ok (.ret v,l3) s3)=.ok (fl,l') s':=by
 rw [xo] at e
 obtain ⟨h,e⟩:=jw e
 obtain ⟨l2,s2,e2,e⟩:=Res.bnd_ok e
 obtain ⟨⟨f3,l3⟩,s3,e3,e⟩:=Res.bind_ok e
 exact ⟨h,l2,s2,f3,l3,s3,e2,e3,e⟩
inductive FInv (G:Gd) (A:Around) (C:Calls) (t:Tie) (env:Env) (Γ:Gam) (I:Addr) (s0:Shared) (s1:MS) (range:Bool) (src:V) (xs:List V) (ts:T ⊕ List T) (n:Nat) (body:List S) (fl:Fl) (loc':Loc) (st':MS):Nat→Shared→Prop
 | mk (τ:Tie) (σ:Shared) (sti:MS) (locI:Loc) (done rest:List V) (hxs:xs=done ++ rest) (S:Step (fun a=>a=I∨own env a) t τ s0 σ) (R:Rel G τ sti σ) (F:FrOk G A τ env Γ locI σ) (hI:ItOk G s1 τ σ I range src done.length)
   (e:jc s1 range src (u0 G.P C ts) (exs G.P C n body) rest locI sti=.ok (fl,loc') st'):FInv G A C t env Γ I s0 s1 range src xs ts n body fl loc' st' rest.length σ
theorem zk3 (hq:d.q=true) (gi:jy Γ) {ts:T ⊕ List T}{range:Bool}{body:List S}{tast:PySem.Expr}{m:List Stmt} (ht:ForTgt G C d sc Γ ts tast) (hb:mv G C d sc Γ n body m) (hA:AOk d A) (hT:zoe A env) (hsc:env.scope.names=sc)
  {I:Addr}{s0 σ:Shared}{s1 sti st':MS}{src:V}{xs done rest:List V}{τ:Tie}{locI loc':Loc}{fl:Fl}{RR:Flow→Shared→Prop}{J:Shared→Prop}{EE:Value→Shared→Prop}
  (hfo:ty ts range src s1=true) (hx:z6 s1 range src=some xs) (nI:¬ own env I) (hpI:t.pv I) (nF0:¬ t.Fr I)
  (hxs:xs=done ++ rest) (S:Step (fun a=>a=I∨own env a) t τ s0 σ) (Rr:Rel G τ sti σ) (Fr:FrOk G A τ env Γ locI σ) (hIt:ItOk G s1 τ σ I range src done.length) (e:jc s1 range src (u0 G.P C ts) (exs G.P C n body) rest locI sti=.ok (fl,loc') st')
  (fin:∀ {τ:Tie}{σ5 se:Shared}{f:Flow},Step (fun a=>a=I∨own env a) t τ s0 σ5→Rel G τ st' σ5→FrOk G A τ env Γ loc' σ5→(∀ b o,b≠I→σ5.heap.get? b=some o→se.heap.get? b=some o)→se.gens=σ5.gens→se.os=σ5.os→bp τ σ5.heap fl f→RR f se)
  (hJ:∀ m s,m < rest.length→FInv G A C t env Γ I s0 s1 range src xs ts n body fl loc' st' m s→J s) :
  wpAny G.M A (pyNext (.ref I)) (fun r s₁=>match r with
   | none=>wpAny G.M A (execs [] env) (fun f s₃=>RR f s₃) EE s₁
   | some v=>wpAny G.M A (letOwnedTupleGo tast (.ref I) v) (fun _ s₁' =>
     wpAny G.M A (assign tast env v) (fun _ s₂=>wpAny G.M A (execs m env) (fun f s₃=>match f with
      | .next | .cont=>J s₃
      | .brk=>RR .next s₃
      | .ret v=>RR (.ret v) s₃) EE s₂) EE s₁') EE s₁) EE σ:=by
 have pI:τ.pv I:=by rw [S.le.pv]; exact hpI
 have nF:¬ τ.Fr I:=fun f=>nF0 (S.le.fr f)
 cases rest with
 | nil =>
  obtain ⟨hst,e1,e2,e3⟩:=dc e
  have hIt':ItOk G s1 τ σ I range src xs.length:=by rw [hxs,List.append_nil]; exact hIt
  refine zlf Rr (hA.hd hq) hx hst hIt' fun h' tk hext=>?_
  exact wpAny_execs_nil (fin S (e3 ▸ Rr) (e2 ▸ Fr) (fun b o nb e=>hext b o nb e) rfl rfl (show bp τ σ.heap fl .next from e1 ▸ rfl))
 | cons x0 rest =>
  refine byQ fun Q' k'=>?_
  obtain ⟨hst,l2,s2,f3,l3,s3,e2,e3,e⟩:=mw e
  refine k' ?_
  have hi:xs[done.length]?=some x0:=by rw [hxs,List.getElem?_append_right (Nat.le_refl _),Nat.sub_self]; rfl
  refine zei Rr pI hx hst hIt hi fun v h1 tk1 SA RA rv hIA=>?_
  have xA:∀ a,a=I→τ.pv a:=fun a z=>by rw [z]; exact pI
  have FA:FrOk G A τ env Γ locI { σ with heap:=h1,toks:=tk1 }:=Fr.stepX Rr SA xA (fun z=>nI (.inl z.symm)) (fun nm c hc z=>nI (.inr ⟨nm,by rw [← z]; exact hc⟩)) fun a z=>by rw [z]; exact nF
  have SA':Step (fun a=>a=I∨own env a) τ τ σ { σ with heap:=h1,toks:=tk1 }:=SA.mono fun a z=>.inl z
  refine znm hq gi hA ht hsc hfo FA RA rv hIA e2 fun τ4 σ4 S4 R4 F4=>?_
  have S4':Step (fun a=>a=I∨own env a) τ τ4 { σ with heap:=h1,toks:=tk1 } σ4:=S4.mono fun a z=>.inr z
  have hI4:=hIA.step S4 FA.ownPv RA.pv pI nI nF
  have nF4:¬ τ4.Fr I:=fun f=>nF (S4.le.fr f)
  have pI:τ4.pv I:=by rw [S4.le.pv]; exact pI
  refine hb τ4 s2 σ4 env l2 f3 l3 s3 A hA hT hsc F4 R4 e3 _ _ fun f t5 σ5 S5 R5 F5 r5=>?_
  have S5':Step (fun a=>a=I∨own env a) τ4 t5 σ4 σ5:=S5.mono fun a z=>.inr z
  have S05:=((S.trans SA').trans S4').trans S5'
  cases f3 with
  | next =>
   have r5:f=.next:=r5
   subst r5
   refine hJ _ _ (Nat.lt_succ_self _) ⟨t5,_,s3,l3,done ++ [x0],rest,by rw [hxs,List.append_assoc]; rfl,S05,R5,F5,?_,e⟩
   rw [List.length_append]
   exact hI4.step S5 F4.ownPv R4.pv pI nI nF4
  | ret V3 =>
   obtain ⟨u,rfl,ru⟩:=r5
   obtain ⟨q1,q2,q3⟩:=zeh e
   exact fin S05 (q3 ▸ R5) (q2 ▸ F5) (fun _ _ _ e=>e) rfl rfl (show bp t5 σ5.heap fl (.ret u) from q1 ▸ ⟨u,rfl,ru⟩)
theorem zoj {I:Addr}{t1:Tie}{σ1 s0 s:Shared}{Q:Flow→Shared→Prop}{loc':Loc}{fl:Fl} (np:∀ a,a=I→σ1.heap.get? a=none) (hk:∀ b o,σ1.heap.get? b=some o→s0.heap.get? b=some o) (hg:s0.gens=σ1.gens) (ho:s0.os=σ1.os) (S1:Step noX t t1 s σ1) (F1:FrOk G A t1 env Γ loc σ1) (nP:∀ a,t1.pv a→¬ a=I) (nI:¬ own env I)
  (k:∀ f t' s',Step (own env) t t' s s'→Rel G t' st' s'→FrOk G A t' env Γ loc' s'→bp t' s'.heap fl f→Q f s')
  {τ:Tie}{σ5 se:Shared}{f:Flow} (S:Step (fun a=>a=I∨own env a) (t1.hide fun a=>a=I) τ s0 σ5) (R5:Rel G τ st' σ5) (F5:FrOk G A τ env Γ loc' σ5) (hext:∀ b o,b≠I→σ5.heap.get? b=some o→se.heap.get? b=some o) (hg5:se.gens=σ5.gens) (ho5:se.os=σ5.os) (rf:bp τ σ5.heap fl f):Q f se:=by
 have hpv:τ.pv=(t1.hide fun a=>a=I).pv:=S.le.pv
 have Fg:Forget (fun a=>a=I) (own env) τ { τ with pv:=t1.pv,st:=t1.st } σ5 se :=
  ⟨rfl,rfl,fun a q=>⟨by rw [hpv]; exact .inl q,nP a q⟩,fun a q=>by rw [hpv]; exact .inr q,fun a q=>⟨F5.ownPv a q,by
   obtain ⟨o,e⟩:=Option.isSome_iff_exists.mp (R5.live a (.inr (F5.ownPv a q)))
   rw [hext a o (fun z=>nI (z ▸ q)) e]; rfl⟩,fun b o nb _ e=>hext b o nb e,hg5,ho5,rfl⟩
 have S':=Step.unhide (t:=t1) (L:=own env) (fun a q=>q) np hk hg ho S Fg
 refine k f _ se ((S1.mono fun _ z=>z.elim).trans S') (R5.forget Fg) (F5.forget Fg (fun a q=>F1.ownPv a q) (fun a o q e=>hext a o (fun z=>nI (z ▸ q)) e) (F5.sk.back F1.sk S.le.st rfl rfl fun L o q e=>hext L o (fun z=>nP L q z) e)) ?_
 cases fl with
 | next=>exact rf
 | ret X=>obtain ⟨v,q1,q2⟩:=rf; exact ⟨v,q1,VRel.forget Fg _ q2⟩
theorem zkj (hq:d.q=true) (O:G.Ok N) (gi:jy Γ) {ts:T ⊕ List T}{range:Bool}{it:E}{body:List S}{tast iast j:PySem.Expr}{m:List Stmt}{pos:Pos} (ht:ForTgt G C d sc Γ ts tast) (hset:wx iast=true) (hia:IterAst sc range iast j) (hj:qb G C d sc Γ it j) (hb:mv G C d sc Γ n body m) :
  bo G C d sc Γ n (.for_ ts range it body) (.For tast iast m [] pos):=by
 intro t st s env loc fl loc' st' A hA hT hsc F R e Q E k
 rw [zh6] at e
 obtain ⟨src,s1,e1,e⟩:=Res.bnd_ok e
 obtain ⟨xs,hx,e⟩:=s9 e
 obtain ⟨hfo,e⟩:=jw e
 refine wpAny_For (zen O hia hj hA hsc F R e1 hx fun t1 σ1 S1 R1 s0 I hk hI hIl hg ho hit=>?_) (ml hset env)
 let P:Addr→Prop:=fun a=>a=I
 have np:∀ a,P a→σ1.heap.get? a=none:=fun a z=>by rw [show a=I from z]; exact hI
 have F1:=F.step R S1
 have R0:Rel G (t1.hide P) s1 s0:=R1.hideGrow np hk (fun a z=>by rw [show a=I from z]; exact hIl) hg ho
 have F0:FrOk G A (t1.hide P) env Γ loc s0:=F1.hideGrow np hk hg ho
 have SG:Step noX (t1.hide P) (t1.hide P) σ1 s0:=⟨.refl _,fun a o e _ _ _=>hk a o e,fun a o e _ _ _=>⟨o.slots,hk a o e⟩,fun _ o=>.inl o,fun a o e=>by rw [hk a o e]; rfl,hg,ho⟩
 have I0:ItOk G s1 (t1.hide P) s0 I range src 0:=hit _ _ (fun a r=>VRel.step SG (fun _ z=>z.elim) _ (VRel.hide np _ r)) rfl fun b o e=>e
 have nP:∀ a,t1.pv a→¬ P a:=fun a q z=>by
  have:=R1.live a (.inr q)
  rw [np a z] at this; exact qg this
 have nI:¬ own env I:=fun q=>nP I (F1.ownPv I q) rfl
 have nF0:¬ (t1.hide P).Fr I:=F1.sk.fresh hI
 refine codeAny_forLoop_any (FInv G A C (t1.hide P) env Γ I s0 s1 range src xs ts n body fl loc' st') (fun nn σ h=>?_) xs.length ⟨t1.hide P,s0,s1,loc,[],xs,rfl,.refl _ _ _,R0,F0,I0,e⟩
 cases h with
 | mk τ σ sti locI done rest hxs S Rr Fr hIt e=>exact zk3 (t:=t1.hide P) hq gi ht hb hA hT hsc hfo hx nI (.inr rfl) nF0 hxs S Rr Fr hIt e (zoj np hk hg ho S1 F1 nP nI k) fun m s hm h=>⟨m,hm,h⟩
theorem zld {test:Loc→MS→Res V}{bd:Loc→MS→Res (Fl×Loc)}{k:Nat}{l l':Loc}{s s':MS}{fl:Fl} (e:xq test bd (k + 1) l s=.ok (fl,l') s') :
  ∃ b s1,test l s=.ok (.bool b) s1∧(if b then ∃ f3 l3 s3,bd l s1=.ok (f3,l3) s3∧(match f3 with | .next=>xq test bd k l3 s3 | .ret v=>.ok (.ret v,l3) s3)=.ok (fl,l') s' else .next=fl∧l=l'∧s1=s'):=by
 obtain ⟨V1,s1,e1,ea⟩:=Res.bnd_ok e
 obtain ⟨b,s2,e2,eb⟩:=Res.bnd_ok ea
 obtain ⟨rfl,rfl⟩:=xa e2
 refine ⟨b,s2,e1,?_⟩
 cases b with
 | true =>
  obtain ⟨⟨f3,l3⟩,s3,e3,e⟩:=Res.bind_ok eb
  exact ⟨f3,l3,s3,e3,e⟩
 | false=>exact zeh eb
inductive WhI (G:Gd) (A:Around) (C:Calls) (t:Tie) (env:Env) (Γ:Gam) (s:Shared) (c:E) (n:Nat) (body:List S) (fl:Fl) (loc':Loc) (st':MS) (k:Nat) (σ:Shared):Prop
 | mk (τ:Tie) (sti:MS) (locI:Loc) (S:Step (own env) t τ s σ) (R:Rel G τ sti σ) (F:FrOk G A τ env Γ locI σ) (e:xq (ev G.P C c) (exs G.P C n body) k locI sti=.ok (fl,loc') st')
theorem zdp {c:E}{body:List S}{x:PySem.Expr}{m:List Stmt} (hc:bz G C d sc Γ c x) (hb:mv G C d sc Γ n body m) (hA:AOk d A) (hT:zoe A env) (hsc:env.scope.names=sc) {fl:Fl}{loc' locI:Loc}{σ:Shared}{τ:Tie}{sti:MS}{k:Nat}{RR:Flow→Shared→Prop}{J:Shared→Prop}{EE:Value→Shared→Prop}
  (S:Step (own env) t τ s σ) (Rr:Rel G τ sti σ) (Fr:FrOk G A τ env Γ locI σ) (e:xq (ev G.P C c) (exs G.P C n body) k locI sti=.ok (fl,loc') st')
  (fin:∀ {f t' s'},Step (own env) t t' s s'→Rel G t' st' s'→FrOk G A t' env Γ loc' s'→bp t' s'.heap fl f→RR f s') (hJ:∀ j s',j < k→WhI G A C t env Γ s c n body fl loc' st' j s'→J s') :
  wpAny G.M A (isTrue x env (eval x env)) (fun b s₂ =>
   if b then wpAny G.M A (execs m env) (fun f s₃=>match f with
     | .next | .cont=>J s₃
     | .brk=>RR .next s₃
     | .ret v=>RR (.ret v) s₃) EE s₂
   else wpAny G.M A (execs [] env) (fun f s₃=>RR f s₃) EE s₂) EE σ:=by
 cases k with
 | zero=>exact zd e
 | succ k =>
  obtain ⟨b,s1,e1,e⟩:=zld e
  refine hc τ sti σ env locI b _ A hA hsc Fr Rr e1 _ _ fun b' t1 σ1 S1 R1 r1=>?_
  subst r1
  have S1':=S.trans (S1.mono fun _ z=>z.elim)
  have F1:=Fr.step Rr S1
  cases b' with
  | true =>
   obtain ⟨f3,l3,s3,e3,e⟩:=e
   refine hb t1 _ σ1 env locI f3 l3 s3 A hA hT hsc F1 R1 e3 _ _ fun f t5 σ5 S5 R5 F5 r5=>?_
   cases f3 with
   | next =>
    have r5:f=.next:=r5
    subst r5
    exact hJ k σ5 (Nat.lt_succ_self _) ⟨t5,s3,l3,S1'.trans S5,R5,F5,e⟩
   | ret V3 =>
    obtain ⟨u,rfl,ru⟩:=r5
    obtain ⟨q1,q2,q3⟩:=zeh e
    exact fin (S1'.trans S5) (q3 ▸ R5) (q2 ▸ F5) (show bp t5 σ5.heap fl (.ret u) from q1 ▸ ⟨u,rfl,ru⟩)
  | false =>
   obtain ⟨q1,q2,q3⟩:=e
   exact wpAny_execs_nil (fin S1' (q3 ▸ R1) (q2 ▸ F1) (show bp t1 σ1.heap fl .next from q1 ▸ rfl))
theorem zct {c:E}{body:List S}{x:PySem.Expr}{m:List Stmt}{pos:Pos} (hc:bz G C d sc Γ c x) (hb:mv G C d sc Γ n body m):bo G C d sc Γ n (.while_ c body) (.While x m [] pos):=by
 intro t st s env loc fl loc' st' A hA hT hsc F R e Q E k
 rw [zbu] at e
 refine wpAny_While (codeAny_whileLoop (WhI G A C t env Γ s c n body fl loc' st') (fun j σ h=>?_) n ⟨t,st,loc,.refl _ _ _,R,F,e⟩)
 cases h with
 | mk τ sti locI S Rr Fr e=>exact zdp hc hb hA hT hsc S Rr Fr e (fun S R F r=>k _ _ _ S R F r) fun j s' hj h=>⟨j,hj,h⟩
end
end Mine
end
section
set_option maxRecDepth 100000
namespace Mine
open PySem PySem.W PyProof.Rows
section
variable {G:Gd}{N:Names}{C:Calls}{d:Dp}{sc:Sc}{Γ:Gam}{A:Around}{t:Tie}{st st':MS}{s:Shared}{env:Env}{loc:Loc}{X Y Z:V}{v w:Value}{n:Nat}
theorem zly {h:Heap}{m cm:PySem.Str→Option Value} (hn:h.Ns env.locals m) (hc:∀ n c,env.cells.lookup n=some c→h.IsCell c (cm n)) {a:Addr} (q:own env a):(h.get? a).isSome=true:=by
 rcases q with rfl | ⟨nm,q⟩
 ·exact zd9 hn
 ·exact o9 (hc nm a q)
theorem ze6 {h:Heap}{m cm:PySem.Str→Option Value} (hn:h.Ns env.locals m) (hc:∀ n c,env.cells.lookup n=some c→h.IsCell c (cm n)) {a:Addr} (q:own env a) {o:Obj} (e:h.get? a=some o) (vs:Array Value):o.data≠.fields vs:=by
 rcases q with rfl | ⟨nm,q⟩
 ·exact zat hn e vs
 ·exact fj (hc nm a q) e vs
theorem zgh {elt:PySem.Expr}{scope:Scope}{y:PySem.Str}{yp pos lpos:Pos}{g:List Comprehension}:∃ b,swapsWith (.ListComp elt g scope lpos) (some (.Name y yp)) pos.line env=pure b∧(b=true→env.kindOf y=some .local):=by
 refine ⟨_,rfl,fun h=>?_⟩
 simp only [Bool.and_eq_true,beq_iff_eq] at h
 exact h.1.1.2
theorem zfx {C:Calls}{M:Option Nat}{slot:Nat}{range:Bool}{it el:E}{cond:Option E}{V:V}{s2:MS} (e:ev G.P C (.comp M slot range it cond el) loc st=.ok V s2) :
  ∃ src s1 xs vs s3,ev G.P C it loc st=.ok src s1∧z6 s1 range src=some xs∧compLoop s1 range src slot (evC G.P C cond) (ev G.P C el) loc [] xs s1=.ok vs s3∧V=znu M s3 vs∧s2=stM M s3 vs:=by
 rw [lr] at e
 obtain ⟨src,s1,ea,eb⟩:=Res.bind_ok e
 obtain ⟨xs,hx,eb⟩:=s9 eb
 obtain ⟨vs,s3,ec,ed⟩:=Res.bind_ok eb
 refine ⟨src,s1,xs,vs,s3,ea,hx,ec,?_⟩
 cases M <;> exact jx ed
theorem zin (gi:jy Γ) {i:Nat}{y:PySem.Str}{yp:Pos} (hi:Γ[i]?=some (some y)) (hkl:env.kindOf y=some .local) (F:FrOk G A t env Γ loc s) (R:Rel G t st s) {Ca D:Addr}{se:Shared}{vs:List V} (hsys:D≠sysModules) (ce:CEnd G A t s st' vs env Γ loc Ca D se) {M:Option Nat}{Q:Shared→Prop}{E':Value→Shared→Prop}
  (k:∀ t2 s',Step (own env) t t2 s s'→Rel G t2 (stM M st' vs) s'→FrOk G A t2 env Γ (loc.set i (some (znu M st' vs))) s'→Q s'):compPost G.M A E' (some (assign (.Name y yp) env)) (fun _ s'=>Q s') (.ref D) Ca (.ok .next) se:=by
 obtain ⟨P,τ,s0,s1',ys,m,np,pC,pD,DC,hk0,hg0,ho0,S,Rr,Fr,hD,hacc,hsz,hn,hext,hg,ho⟩:=ce
 have nO:∀ a,own env a→¬ P a:=fun a q z=>by
  have h:=R.live a (.inr (F.ownPv a q))
  rw [np a z] at h; exact qg h
 obtain ⟨m0,cm,hn0,hcc,hz,hs⟩:=Fr.ex
 have up:∀ {b},own env b→∀ o,s1'.heap.get? b=some o→se.heap.get? b=some o:=fun q o e=>hext _ o (fun z=>(nO _ q z).elim) e
 show wpAny _ A (assign (.Name y yp) env (.ref D)) _ _ _
 refine wpAny_assign_Name (wpAny_storeName_local hkl (lq (up (.inl rfl)) hn0) (fun h2 hn2 hs2=>?_) F.noClass)
 have hCL:Ca≠env.locals:=fun z=>nO _ (.inl rfl) (z ▸ pC)
 refine ⟨m,lq (fun o h=>(hs2.2 _ hCL).trans h) hn,fun h' hs'=>?_⟩
 have hnF:Heap.Ns h' env.locals (fun z=>if z=y then some (.ref D) else m0 z):=lq (fun o h=>(hs'.2 _ hCL.symm).trans h) hn2
 have hcF:∀ n c,env.cells.lookup n=some c→h'.IsCell c (cm n):=fun nm c q=>pg (fun o e=>(hs'.2 c fun (z:c=Ca)=>nO c (.inr ⟨nm,q⟩) (z ▸ pC)).trans ((hs2.2 c (ri hn0 (hcc nm c q))).trans (up (.inr ⟨nm,q⟩) o e))) (hcc nm c q)
 obtain ⟨t2,S',R2,rD,hp2,up2⟩:=zax (L:=own env) (se:={ se with heap:=h',toks:=se.toks + 1 }) R np pD hk0 hg0 ho0 S Rr (fun a q=>⟨F.ownPv a q,zly hnF hcF q⟩)
   (fun b o hb nl e=>(hs'.2 b fun (z:b=Ca)=>DC (z ▸ hb (z ▸ pC)).symm).trans ((hs2.2 b fun (z:b=env.locals)=>nl (.inl z)).trans (hext b o (fun q=>.inr (hb q)) e))) hg ho hsys hD hacc hsz M
 exact k t2 _ S' R2 ⟨F.sk.step R S' fun a x _ o e=>ze6 hnF hcF x e,F.fn,F.gl,F.bl,by rw [hp2]; exact F.pvl,fun nm c q=>by rw [hp2]; exact F.pvc nm c q,F.apart,_,cm,hnF,hcF,hz,
  du (At':=fun x u=>(env.kindOf x=some .local∧(if x=y then some (Value.ref D) else m0 x)=some u)∨(env.kindOf x=some .cell∧cm x=some u)) gi hi hs rD (.inl ⟨hkl,if_pos rfl⟩) (fun x u hne p=>p.imp (fun p=>⟨p.1,(if_neg hne).trans p.2⟩) id) up2⟩
theorem zoo {e:E}{i n:Nat}{fl:Fl}{loc':Loc} (h:ex G.P C n (.assign i e) loc st=.ok (fl,loc') st'):∃ V,ev G.P C e loc st=.ok V st'∧fl=.next∧loc'=loc.set i (some V):=by
 rw [pn] at h
 obtain ⟨V,s2,e1,h⟩:=Res.bnd_ok h
 obtain ⟨-,h⟩:=jw h
 cases h
 exact ⟨V,e1,rfl,rfl⟩
theorem m5 (hq:d.q=true) (O:G.Ok N) (gi:jy Γ) {i:Nat}{y:PySem.Str}{yp pos:Pos} (hi:Γ[i]?=some (some y)) (hk:vz sc y=true) {M:Option Nat}{range:Bool}{slot:Nat}{it:E}{cond:Option E}{el:E}{elt iast j:PySem.Expr}{ifs:List PySem.Expr}{scope:Scope}{x:PySem.Str}{px lpos:Pos}
  (K:CompOk sc scope slot Γ x) (hset:wx iast=true) (ha:IterAst sc range iast j) (hj:qb G C d sc Γ it j)
  (hcond:CondSim G C d (qi sc scope.names) (js (qi sc scope.names) Γ slot x) cond ifs) (hel:qb G C d (qi sc scope.names) (js (qi sc scope.names) Γ slot x) el elt) :
  bo G C d sc Γ n (.assign i (.comp M slot range it cond el)) (.Assign [.Name y yp] (.ListComp elt [⟨.Name x px,iast,ifs,0⟩] scope lpos) pos):=by
 intro t st s env loc fl loc' st' A hA hT hsc F R e Q E k
 obtain ⟨V,e1,rfl,rfl⟩:=zoo e
 obtain ⟨b,hsw,hloc⟩:=zgh (env:=env) (elt:=elt) (scope:=scope) (y:=y) (yp:=yp) (pos:=pos) (lpos:=lpos) (g:=[⟨.Name x px,iast,ifs,0⟩])
 cases b with
 | false =>
  refine wpAny_Assign_Name (za7 hq O K hset ha hj hcond hel t st s env loc _ _ A hA hsc F R e1 _ _ fun v t1 σ1 S1 R1 r1=>?_) hsw
  exact cv (F.step R S1) R1 gi hi (ui hsc hk) r1 fun σ2 S2 R2 F2=>k _ t1 σ2 ((S1.mono fun _ z=>z.elim).trans S2) R2 F2 rfl
 | true =>
  obtain ⟨src,s1,xs,vs,s3,ea,hx,ec,rfl,rfl⟩:=zfx e1
  rw [exec_Assign_Name_used _ _ _ _ hsw]
  refine wpAny_bind (wpAny_standAt (wpAny_bind ?_))
  show wpAny _ A (do let _ ← comprehension (.ListComp elt [⟨.Name x px,iast,ifs,0⟩] scope lpos) scope env _ (newList []) false (eval iast env) (some (assign (.Name y yp) env))) _ _ s
  exact wpAny_bind (wpAny_mono (zd5 (use:=some (assign (.Name y yp) env)) (Q:=fun _ s'=>Q .next s') (E':=E) hq O hA hsc K hset ha hj hcond hel F R ea hx ec fun t1 σ1 Ca D se S1 R1 hsys ce =>
   zin (Q:=Q .next) gi hi (hloc rfl) (F.step R S1) R1 hsys ce fun t2 s' S' R2 F2=>k .next t2 s' ((S1.mono fun _ z=>z.elim).trans S') R2 F2 rfl) (fun _ s' hq=>wpAny_pure (wpAny_pure hq)) fun _ _ z=>z)
end
end Mine
end
section
set_option maxRecDepth 100000
namespace Mine
open PySem PySem.W PyProof.Rows
noncomputable def zcz (fn:Fn):Gam:=fn.names.map fun x=>if x == Str.empty then none else some x
section
variable {G:Gd}{N:Names}{C:Calls}{d:Dp}{sc:Sc}{Γ:Gam}{A:Around}{t:Tie}{st st':MS}{s:Shared}{env:Env}{loc:Loc}{X Y Z:V}{v w:Value}{n:Nat}
theorem cp (k:PySem.Str→Option NameKind):∀ (b:List (PySem.Str×Value)) (m:PySem.Str→Option Value) (x:PySem.Str),x ∉ b.map (·.1)→bindL k b m x=m x
 | [],_,_,_=>rfl
 | (y,v) :: r,m,x,h=>by
  simp only [List.map_cons,List.mem_cons,not_or] at h
  rw [bindL,cp k r _ x h.2]
  split
  ·exact if_neg h.1
  ·rfl
theorem nt (k:PySem.Str→Option NameKind):∀ (b:List (PySem.Str×Value)) (m:PySem.Str→Option Value) (x:PySem.Str),x ∉ b.map (·.1)→bindC k b m x=m x
 | [],_,_,_=>rfl
 | (y,v) :: r,m,x,h=>by
  simp only [List.map_cons,List.mem_cons,not_or] at h
  rw [bindC,nt k r _ x h.2]
  split
  ·rfl
  ·exact if_neg h.1
theorem zar (k:PySem.Str→Option NameKind):∀ (b:List (PySem.Str×Value)) (m:PySem.Str→Option Value) (x:PySem.Str) (v:Value),(b.map (·.1)).Nodup→(x,v)∈b→k x=some .local→bindL k b m x=some v
 | (y,u) :: r,m,x,v,nd,h,hk=>by
  rw [List.map_cons,List.nodup_cons] at nd
  rcases List.mem_cons.mp h with e | h
  ·cases e
   rw [bindL,cp k r _ _ nd.1,if_pos hk]; exact if_pos rfl
  ·rw [bindL]; exact zar k r _ x v nd.2 h hk
theorem eh (k:PySem.Str→Option NameKind):∀ (b:List (PySem.Str×Value)) (m:PySem.Str→Option Value) (x:PySem.Str) (v:Value),(b.map (·.1)).Nodup→(x,v)∈b→k x≠some .local→bindC k b m x=some v
 | (y,u) :: r,m,x,v,nd,h,hk=>by
  rw [List.map_cons,List.nodup_cons] at nd
  rcases List.mem_cons.mp h with e | h
  ·cases e
   rw [bindC,nt k r _ _ nd.1,if_neg hk]; exact if_pos rfl
  ·rw [bindC]; exact eh k r _ x v nd.2 h hk
theorem kz:∀ (names:Sc) (k:Nat) (acc:List (PySem.Str×Addr)) (x:PySem.Str),names.lookup x=some .cell∨(acc.lookup x).isSome=true→((cellsFrom k names acc).lookup x).isSome=true
 | [],_,_,_,h=>h.resolve_left (fun z=>by exact za z)
 | (y,kd) :: r,k,acc,x,h=>by
  rw [cellsFrom]
  split
  ·refine kz r _ _ x ?_
   cases q:x == y with
   | true=>right; rw [List.lookup_cons,q]; rfl
   | false =>
    rw [List.lookup_cons,q] at h
    rw [List.lookup_cons,q]; exact h
  ·rename_i hkd
   refine kz r _ _ x ?_
   cases q:x == y with
   | true =>
    rw [List.lookup_cons,q] at h
    refine .inr (h.resolve_left fun z=>hkd ?_)
    have:kd=.cell:=by simpa using z
    rw [this]; rfl
   | false=>rw [List.lookup_cons,q] at h; exact h
set_option genCtorIdx false in
structure FnHd (G:Gd) (fn:Fn) (a:Addr) (fd:FuncData) (body:List Stmt):Prop where
 ex:∃ o:Obj,G.K.lookup a=some o∧o.data=.func fd∧codeIn G.K fd.code fd.qualname=true∧fd.body=.stmts body∧fd.closure=[]∧fd.globals=mainGlobals∧fd.builtins=builtinsNs ∧
  fd.scope.kind=.function∧fd.scope.isCoroutine=false∧fd.scope.isGenerator=false ∧
  (∀ vals:List Value,vals.length=fn.np→bindArgs fd ⟨vals,[]⟩=pure ((fn.names.take fn.np).zip vals))∧fn.np≤fn.names.length∧(∀ x∈fn.names.take fn.np,vz fd.scope.names x=true∧x≠Str.empty)∧(fn.names.take fn.np).Nodup
set_option genCtorIdx false in
structure FnRec (G:Gd) (q:Bool) (PX:Calls→Nat→Prop) (fn:Fn) (a:Addr):Prop where
 ex:∃ (fd:FuncData) (body:List Stmt),FnHd G fn a fd body∧∀ (C:Calls) (n:Nat),PX C n→mv G C ⟨n,q⟩ fd.scope.names (zcz fn) n fn.body body
theorem m6 {cs:List (PySem.Str×Addr)} (h:cs.Pairwise fun x y=>x.2≠y.2) {n n':PySem.Str}{c:Addr} (h1:cs.lookup n=some c) (h2:cs.lookup n'=some c):n=n':=by
 induction cs with
 | nil=>exact za h1
 | cons x r ih =>
  rw [List.pairwise_cons] at h
  rw [List.lookup_cons] at h1 h2
  cases q1:n == x.1 <;> cases q2:n' == x.1 <;> rw [q1] at h1 <;> rw [q2] at h2
  ·exact ih h.2 h1 h2
  ·cases h2; exact absurd rfl (h.1 (n,x.2) (PySem.mem_of_lookup (n:=n) h1))
  ·cases h1; exact absurd rfl (h.1 (n',x.2) (PySem.mem_of_lookup (n:=n') h2))
  ·rw [beq_iff_eq] at q1 q2; rw [q1,q2]
set_option backward.match.sparseCases true in
theorem zjx (O:G.Ok N) {fn:Fn}{a:Addr}{q:Bool}{fd:FuncData}{body:List Stmt} (hfn:FnHd G fn a fd body) (hA:AC ⟨n + 1,q⟩ A) {Vs:List V}{vals:List Value} (K:Stk A t s.heap) (R:Rel G t st s) (r:VRels t s.heap Vs vals) (hnp:Vs.length=fn.np)
  {B:Result→Shared→Prop}
  (k:∀ (env:Env) (s₁:Shared),env.scope.names=fd.scope.names→env.frame=some env.locals→(∀ b,own env b→s.heap.get? b=none)→(∀ b o,s.heap.get? b=some o→s₁.heap.get? b=some o)→s₁.gens=s.gens→s₁.os=s.os→AOk ⟨n,q⟩ (A.deeper env) →
   FrOk G (A.deeper env) (t.hideS (own env) (env :: t.st)) env (zcz fn) (Vs.map some ++ List.replicate (fn.names.length - fn.np) none) s₁→Rel G (t.hideS (own env) (env :: t.st)) st s₁ →
   wpAny G.M (A.deeper env) (execs body env) (fun f s'=>B (.ok (.ret (match f with | .ret v=>v | _=>.none))) s') (fun e s'=>wpAny G.M (A.deeper env) (leaving env e) (fun _ s''=>B (.error e) s'') (fun e' s''=>B (.error e') s'') s') s₁) :
  codeAny G.M A (.call (.ref a) ⟨vals,[]⟩) B s:=by
 obtain ⟨o,h1,h2,h3,h4,h5,h6,h7,h8,h9,h10,h11,h12,h13,h14⟩:=hfn.ex
 have XK:=O.K.keeps R.base
 have hlv:vals.length=fn.np:=by rw [r.length]; exact hnp
 have hbn:((fn.names.take fn.np).zip vals).map (·.1)=fn.names.take fn.np:=by
  rw [List.map_fst_zip]; rw [List.length_take,hlv]; exact Nat.min_le_left _ _
 have hkx:∀ x∈(fn.names.take fn.np).zip vals,x.1∈fn.names.take fn.np:=fun x hx=>(List.of_mem_zip (a:=x.1) (b:=x.2) hx).1
 refine codeAny_call_cells (body:=body) (binds:=(fn.names.take fn.np).zip vals) (by have:=hA.dep; lia) (XK _ _ h1) h2 (O.lim.keeps R.base) (codeRec_of XK h3) h4 (h11 vals hlv) h5 (fun x hx=>?_) (fun s₁ x=>?_) h9 h10 h8
 ·have hk:=(h13 x.1 (hkx x hx)).1
  simp only [vz,Bool.or_eq_true,beq_iff_eq] at hk
  rcases hk with hk | hk
  ·exact .inl hk
  ·exact .inr ⟨hk,kz _ _ _ _ (.inl hk)⟩
 ·let env:=callEnvC fd s.heap.objs.size a
  have hcells:env.cells=cellsFrom (s.heap.objs.size + 1) fd.scope.names []:=rfl
  have hloc:env.locals=s.heap.objs.size:=rfl
  obtain ⟨h',tk,hs,hk'⟩:=x.done
  let P:Addr→Prop:=own env
  have np:∀ b,P b→s.heap.get? b=none:=by
   rintro b (rfl | ⟨nm,q⟩)
   ·exact qv _
   ·have hlt:=x.above nm b (PySem.mem_of_lookup q)
    cases z:s.heap.get? b with
    | none=>rfl
    | some ob=>exact absurd (Heap.lt_size z) (Nat.not_lt.mpr (Nat.le_of_lt hlt))
  have hk0:∀ b o,s.heap.get? b=some o→s₁.heap.get? b=some o:=x.toInCall.keep
  have hg:s₁.gens=s.gens:=by rw [hs]
  have ho:s₁.os=s.os:=by rw [hs]
  have hlP:∀ b,P b→(s₁.heap.get? b).isSome=true:=by
   rintro b (rfl | ⟨nm,q⟩)
   ·obtain ⟨ob,_,_,z,_⟩:=x.toInCall.ns; rw [z]; rfl
   ·obtain ⟨ob,z,_⟩:=x.cell nm b q; rw [z]; rfl
  have R0:Rel G (t.hideS P (env :: t.st)) st s₁:=R.hideGrow np hk0 hlP hg ho
  have SG:Step noX (t.hideS P (env :: t.st)) (t.hideS P (env :: t.st)) s s₁:=⟨.refl _,fun a o e _ _ _=>hk0 a o e,fun a o e _ _ _=>⟨o.slots,hk0 a o e⟩,fun _ o=>.inl o,fun a o e=>by rw [hk0 a o e]; rfl,hg,ho⟩
  have hkind:∀ y,env.kindOf y=fd.scope.names.lookup y:=fun _=>rfl
  have K0:Stk (A.deeper env) (t.hideS P (env :: t.st)) s₁.heap:=by
   refine ⟨Around.frames_deeper K.fr,fun e he=>?_⟩
   rcases List.mem_cons.1 he with rfl | he
   ·obtain ⟨ob,es,ep,z1,z2,_⟩:=x.toInCall.ns
    exact ⟨by show fd.scope.kind≠_; rw [h8]; decide,_,ob,rfl,.inr (.inl rfl),z1,fun vs z=>by rw [z2] at z; cases z⟩
   ·obtain ⟨q1,L,o,q2,q3,q4,q5⟩:=K.ob e he
    exact ⟨q1,L,o,q2,.inl q3,hk0 _ _ q4,q5⟩
  have F0:FrOk G (A.deeper env) (t.hideS P (env :: t.st)) env (zcz fn) (Vs.map some ++ List.replicate (fn.names.length - fn.np) none) s₁:=by
   refine ⟨K0,h8,h6,h7,.inr (.inl rfl),fun nm c q=>.inr (.inr ⟨nm,q⟩),fun nm nm' c q q'=>m6 x.apart q q',_,_,x.toInCall.ns,x.cell,fun y hy=>kz _ _ _ _ (.inl hy),fun i y Y e1 e2=>?_⟩
   have hi:i < Vs.length:=by
    by_cases q:i < Vs.length
    ·exact q
    ·rw [List.getElem?_append_right (by rw [List.length_map]; lia)] at e2
     rw [List.getElem?_replicate] at e2
     split at e2 <;> cases e2
   rw [List.getElem?_append_left (by rw [List.length_map]; exact hi),List.getElem?_map] at e2
   obtain ⟨Y',e3,e4⟩:=Option.map_eq_some_iff.mp e2
   cases e4
   obtain ⟨u,u1,u2⟩:=VRels.get r e3
   simp only [zcz,List.getElem?_map,Option.map_eq_some_iff] at e1
   obtain ⟨y',e5,e6⟩:=e1
   have hy:y'=y:=by split at e6 <;> cases e6; rfl
   subst hy
   have e7:(fn.names.take fn.np)[i]?=some y':=by rw [List.getElem?_take,if_pos (by lia)]; exact e5
   have hm:(y',u)∈(fn.names.take fn.np).zip vals:=by
    refine List.mem_iff_getElem?.mpr ⟨i,?_⟩
    rw [List.getElem?_zip_eq_some]; exact ⟨e7,u1⟩
   have hko:=(h13 y' (List.mem_iff_getElem?.mpr ⟨i,e7⟩)).1
   simp only [vz,Bool.or_eq_true,beq_iff_eq] at hko
   refine ⟨u,VRel.step SG (fun _ z=>z.elim) _ (VRel.hide np _ u2),?_⟩
   rcases hko with hko | hko
   ·exact .inl ⟨hko,zar _ _ _ _ _ (by rw [hbn]; exact h14) hm hko⟩
   ·exact .inr ⟨hko,eh _ _ _ _ _ (by rw [hbn]; exact h14) hm (by rw [hkind,hko]; decide)⟩
  have hA':AOk ⟨n,q⟩ (A.deeper env):=⟨hA.hd,by have h:A.depth + 2 * (n + 1) + 5≤recursionLimit:=hA.dep; show (A.deeper env).depth + 2 * n + 6≤_; rw [depth_deeper]; lia,by have h:A.units + 20 * (n + 1) + 105≤cLine:=hA.un; show (A.deeper env).units + 20 * n + 110≤_; rw [units_deeper]; lia⟩
  exact k env s₁ rfl rfl np hk0 hg ho hA' F0 R0
theorem zky (O:G.Ok N) {fn:Fn}{a:Addr}{q:Bool}{PX:Calls→Nat→Prop} (hfn:FnRec G q PX fn a) (px:PX C n) (hA:AC ⟨n + 1,q⟩ A) {Vs:List V}{vals:List Value} (K:Stk A t s.heap) (R:Rel G t st s) (r:VRels t s.heap Vs vals) (hnp:Vs.length=fn.np)
  {p:Fl×Loc} (e:exs G.P C n fn.body (Vs.map some ++ List.replicate (fn.names.length - fn.np) none) st=.ok p st') {B:Result→Shared→Prop}
  (k:∀ v t' s',Step noX t t' s s'→Rel G t' st' s'→VRel t' s'.heap (match p.1 with | .ret v=>v | .next=>.none) v→B (.ok (.ret v)) s') :
  codeAny G.M A (.call (.ref a) ⟨vals,[]⟩) B s:=by
 obtain ⟨fd,body,hd,h15⟩:=hfn.ex
 refine zjx O hd hA K R r hnp fun env s₁ hs hf np hk0 hg ho hA' F0 R0=>?_
 refine h15 C n px (t.hideS (own env) (env :: t.st)) st s₁ env _ p.1 p.2 st' (A.deeper env) hA' ⟨_,Around.frames_deeper K.fr,hf⟩ hs F0 R0 e _ _ fun f t' s' S' R' F' rf=>?_
 have hpv:t'.pv=(t.hideS (own env) (env :: t.st)).pv:=S'.le.pv
 have nP:∀ b,t.pv b→¬ own env b:=fun b q z=>by
  have:=R.live b (.inr q)
  rw [np b z] at this; exact qg this
 have Fg:Forget (own env) noX t' { t' with pv:=t.pv,st:=t.st } s' s' :=
  ⟨rfl,rfl,fun b q=>⟨by rw [hpv]; exact .inl q,nP b q⟩,fun b q=>by rw [hpv]; exact .inr q,fun b z=>z.elim,fun _ _ _ _ e=>e,rfl,rfl,rfl⟩
 have S'':=Step.unhideS (t:=t) (L:=noX) (l:=env :: t.st) (fun e he=>(List.mem_cons.1 he).elim (fun z=>.inr fun b q=>by rw [z,hf] at q; cases q; exact .inl rfl) .inl) (fun e he=>List.mem_cons_of_mem _ he) (fun b q=>.inl q) np hk0 hg ho S' Fg
 cases hp:p.1 with
 | next =>
  rw [hp] at rf
  have rf:f=.next:=rf
  subst rf
  exact k _ _ _ S'' (R'.forget Fg) (by rw [hp]; rfl)
 | ret X =>
  rw [hp] at rf
  obtain ⟨u,rfl,ru⟩:=rf
  exact k _ _ _ S'' (R'.forget Fg) (by rw [hp]; exact VRel.forget Fg _ ru)
end
end Mine
end
section
set_option maxRecDepth 100000
namespace Mine
open PySem PySem.W PyProof.Rows
section
variable {G:Gd}{N:Names}{C:Calls}{d:Dp}{sc:Sc}{Γ:Gam}{A:Around}{t:Tie}{st st':MS}{s:Shared}{env:Env}{loc:Loc}{X Y Z:V}{v w:Value}
theorem zf2 (O:G.Ok N) {kd:Nat}{a:E}{x:PySem.Expr}{np pos:Pos} (hg:k8 sc "dict"=true) (hx:isStarred x=false) (ha:qb G C d sc Γ a x) :
  qb G C d sc Γ (.dictC kd a) (.Call (.Name "dict" np) [x] [] pos):=by
 intro t st s env loc X st' A hA hsc F R e Q E k
 rw [ey] at e
 obtain ⟨V,s1,e1,e⟩:=Res.bind_ok e
 cases V with
 | ref r =>
  have e:(match s1.heap r with | some (.dict d)=>if d.length≤1000 then Res.ok (V.ref (kd,s1.cnt kd)) (s1.new kd (.dict d)) else .stuck | _=>.stuck)=.ok X st':=e
  cases hr:s1.heap r with
  | none=>rw [hr] at e; exact zd e
  | some o =>
   rw [hr] at e
   cases o with
   | dict dd =>
    obtain ⟨hz,rfl,rfl⟩:=zqp e
    refine wpAny_Call_ofName (xd (v:=.type "dict") O F R hsc hg (by decide) (by decide +kernel) ?_)
    have e1':evL G.P C [a] loc st=.ok [.ref r] s1:=by simp [sf,ym,e1,Res.bind]
    refine v9 O (rz _) (l:=[a]) (m:=[x]) (by simp [qk,hx]) rfl (yr hx ha uc) hA hsc F R e1' fun vs t1 σ1 S1 R1 r1=>?_
    obtain ⟨v,_,rfl,⟨b,rfl,hb⟩,rfl⟩:=r1
    obtain ⟨b',kvs,h1,h2,h3⟩:=R1.objs r _ hr
    obtain rfl:b'=b:=by rw [hb] at h1; cases h1; rfl
    refine kt_call_dict (knd:=strKind G.prog G.w) (beq_eq_false_iff_ne.2 fun z=>R1.sys r (z ▸ h1)) h2 ?_ fun h' hd hs=>?_
    ·rw [h3.length]; exact Nat.le_trans hz (by decide)
    have hk:∀ c o,σ1.heap.get? c=some o→h'.get? c=some o:=fun c o e=>(hs.2 c (fun (z:c=_)=>by rw [z,qv] at e; exact za e)).trans (Heap.get?_push_of_some _ e)
    have S:=Step.bind (k:=kd) (d:=none) (s':={ σ1 with heap:=h' }) R1 hk rfl rfl (qv _) (fun x e=>by exact za e)
    have rho:(t1.bind (kd,s1.cnt kd) σ1.heap.objs.size none).ρ (kd,s1.cnt kd)=some σ1.heap.objs.size:=if_pos rfl
    refine k _ _ _ (S1.trans S) (Rel.bind R1 hk rfl rfl (qv _) (fun x e=>by exact za e) ?_ (R1.size_sys O) ⟨_,kvs,rho,hd,DRel.step S (fun _ q=>q.elim) h3⟩) ⟨_,rfl,rho⟩
    obtain ⟨o,es,ep,ho,_⟩:=hd
    show (Heap.get? h' _).isSome=true
    rw [ho]; rfl
   | _=>exact zd e
 | _=>exact zd e
end
end Mine
end
section
set_option maxRecDepth 100000
namespace Mine
open PySem PySem.W PyProof.Rows
noncomputable def ng (n:Nat) (ans:Nat→Nat→Bool) (want:List Nat):KasT (Array Nat)→Bool
 | .ret a=>a.toList == want
 | .ask i j k=>decide (i < n) && (decide (j < n) && (decide (i≠j) && ng n ans want (k (ans i j))))
theorem zhw {n:Nat}{ans:Nat→Nat→Bool}{want:List Nat}{cmp:Nat→Nat→(Bool→Shared→Prop)→Shared→Prop}{s:Shared}{Q:Array Nat→Shared→Prop} (hc:∀ i j,i < n→j < n→i≠j→∀ C:Bool→Shared→Prop,C (ans i j) s→cmp i j C s) (hQ:∀ a:Array Nat,a.toList=want→Q a s) :
  ∀ t:KasT (Array Nat),ng n ans want t=true→t.kasWp cmp Q s
 | .ret a,h=>hQ a (eq_of_beq (h:(a.toList == want)=true))
 | .ask i j k,h=>by
  obtain ⟨h1,h⟩:=Bool.and_eq_true_iff.1 (h:(decide (i < n) && (decide (j < n) && (decide (i≠j) && ng n ans want (k (ans i j)))))=true)
  obtain ⟨h2,h⟩:=Bool.and_eq_true_iff.1 h
  obtain ⟨h3,h⟩:=Bool.and_eq_true_iff.1 h
  exact hc i j (of_decide_eq_true h1) (of_decide_eq_true h2) (of_decide_eq_true h3) _ (zhw hc hQ (k (ans i j)) h)
noncomputable def tbl (m pos i j:Nat):Bool:=if i < m then (if j < m then decide (i < j) else decide (i < pos)) else decide (pos≤j)
theorem zqz:∀ m:Fin 5,∀ pos:Fin (m.1 + 2),ng (m.1 + 2) (tbl (m.1 + 1) pos.1) (y7 (m.1 + 1) pos.1) (kas_sort (m.1 + 2))=true:=by decide +kernel
section
variable {prog:Program}{w:World}{A:Around}{E:Value→Shared→Prop}{s:Shared}
set_option backward.match.sparseCases true in
theorem zmc {a:Addr}{vs out:List Value}{n:Nat}{P:PySem.Fin→Shared→Prop} (ho:s.heap.get? a=some (seqObj "list" vs.toArray n)) (h64:vs.length < 64) (hlen:out.length=vs.length) (h1:vs.length < 2→out=vs)
  (h2:2≤vs.length→∀ s':Shared,(∀ b o,b≠a→s.heap.get? b=some o→s'.heap.get? b=some o)→wpAny (model prog w) A (keyKind' vs.toArray) (fun κ s2=>(kas_sort vs.length).kasWp (kas_ask prog w A κ vs) (fun p s3=>s3=s'∧(p.toList.map fun i=>vs.getD i Value.none)=out) s2) E s')
  (k:∀ h' c,(∀ b o,b≠a→s.heap.get? b=some o→h'.get? b=some o)→h'.get? a=some (seqObj "list" out.toArray c)→P (.done (.ret .none)) { s with heap:=h' }) :
  wpAny (model prog w) A (Builtin.«list.sort» ⟨[.ref a],[]⟩) P E s:=by
 have ha:a < s.heap.objs.size:=Heap.lt_size ho
 obtain ⟨e1,ho1⟩:∃ e1,(s.heap.update a (Obj.mapSeq fun _=>(#[]:Array Value))).get? a=some (seqObj "list" #[] e1):=⟨_,get?_update_seq ho fun _=>#[]⟩
 rw [list_sort_plain]
 refine wpAny_bind (listItems_at ho rfl ?_)
 refine wpAny_bind (listUpdate_at ho rfl ?_ (by rw [List.size_toArray,sizeLine_eq]; lia) (Nat.zero_le _))
 refine wpAny_bind (seqEpoch_at ho1 rfl ?_)
 refine wpAny_bind (wpAny_newTuple ?_ (by show vs.length≤_; rw [sizeLine_eq]; lia))
 refine wpAny_bind (wpAny_newList ?_ (Nat.zero_le _))
 refine wpAny_holding ?_
 have kp:∀ b o,(s.heap.update a (Obj.mapSeq fun _=>(#[]:Array Value))).get? b=some o→(((s.heap.update a (Obj.mapSeq fun _=>(#[]:Array Value))).push (seqObj "tuple" vs.toArray 0)).push (seqObj "list" #[] 0)).get? b=some o:=fun b o e=>Heap.get?_push_of_some _ (Heap.get?_push_of_some _ e)
 have old:∀ b o,b≠a→s.heap.get? b=some o→(((s.heap.update a (Obj.mapSeq fun _=>(#[]:Array Value))).push (seqObj "tuple" vs.toArray 0)).push (seqObj "list" #[] 0)).get? b=some o:=fun b o nb e=>kp b o ((Heap.SameBut.update s.heap a _).2 b nb |>.trans e)
 have ho6:=kp a _ ho1
 show wpAny (model prog w) A _ P E { s with heap:=((s.heap.update a (Obj.mapSeq fun _=>(#[]:Array Value))).push (seqObj "tuple" vs.toArray 0)).push (seqObj "list" #[] 0) }
 generalize ((s.heap.update a (Obj.mapSeq fun _=>(#[]:Array Value))).push (seqObj "tuple" vs.toArray 0)).push (seqObj "list" #[] 0)=H at old ho6
 dsimp only
 have hend:∀ {st:SortSt},(arrOf st).map (·.2)=out.toArray→failedOf st=none→wpAny (model prog w) A (do
   let touched:=(← seqEpoch a) != e1
   Builtin.List.listUpdate (.ref a) fun _=>(arrOf st).map (·.2)
   if let some e:=failedOf st then rule "list.sort.comparison-raised"; throw e
   if touched then rule "list.sort.modified"; raiseError "ValueError" "list modified during sort"
   ret .none) P E { s with heap:=H }:=by
  intro st hs hf
  refine wpAny_bind (seqEpoch_at ho6 rfl ?_)
  obtain ⟨c,hc⟩:∃ c,(H.update a (Obj.mapSeq fun _=>out.toArray)).get? a=some (seqObj "list" out.toArray c):=⟨_,get?_update_seq ho6 fun _=>out.toArray⟩
  rw [hs,hf]
  refine wpAny_bind (listUpdate_at ho6 rfl ?_ (Nat.zero_le _) (by rw [List.size_toArray,hlen,sizeLine_eq]; lia))
  simp only [bne_self_eq_false,Bool.false_eq_true,if_false]
  exact wpAny_pure (k _ c (fun b o nb e=>((Heap.SameBut.update H a _).2 b nb).trans (old b o nb e)) hc)
 by_cases hn:vs.toArray.size < 2
 ·rw [if_pos hn,if_pos hn]
  refine wpAny_bind (wpAny_pure ?_)
  rw [StateT.run_pure]
  refine wpAny_bind (wpAny_pure (hend ?_ rfl))
  show ((vs.toArray.zip vs.toArray).map (·.2))=out.toArray
  rw [h1 (by rw [List.size_toArray] at hn; exact hn)]
  apply Array.toList_inj.mp
  simp only [Array.toList_map,Array.toList_zip]
  exact List.map_snd_zip (Nat.le_refl _)
 ·rw [if_neg hn,if_neg hn]
  rw [List.size_toArray] at hn
  refine wpAny_bind (wpAny_mono (h2 (by lia) { s with heap:=H } old) (fun κ s0 hk=>?_) fun _ _ x=>x)
  refine wpAny_bind (wpAny_mono (kat_run (Q:=fun st' s'=>s'={ s with heap:=H }∧(arrOf st').map (·.2)=out.toArray∧failedOf st'=none) rfl (by lia) h64 (fun p' st' s' a1 a2 a3 a4=>⟨a4.1,by rw [kat_snds rfl a2,a4.2],a3⟩) hk) ?_ fun _ _ e=>e)
  rintro ⟨⟨⟩,st'⟩ s' ⟨rfl,hs,hf⟩
  exact hend hs hf
theorem oh {l:Addr}{vs out:List Value}{Q:Value→Shared→Prop} (hl:s.heap.IsList l vs.toArray) (h64:vs.length < 64) (hlen:out.length=vs.length) (h1:vs.length < 2→out=vs)
  (h2:2≤vs.length→∀ (A':Around) (s':Shared) (E':Value→Shared→Prop),(∀ b o,s.heap.get? b=some o→s'.heap.get? b=some o)→wpAny (model prog w) A' (keyKind' vs.toArray) (fun κ s2=>(kas_sort vs.length).kasWp (kas_ask prog w A' κ vs) (fun p s3=>s3=s'∧(p.toList.map fun i=>vs.getD i Value.none)=out) s2) E' s')
  (k:∀ h' c,(∀ b o,s.heap.get? b=some o→h'.get? b=some o)→h'.get? (s.heap.objs.size + 1)=some (seqObj "list" out.toArray c)→Q (.ref (s.heap.objs.size + 1)) { s with heap:=h' }) :
  wpAny (model prog w) A (call (.builtin "sorted") [.ref l]) Q E s:=by
 refine Calls.call_function_entry kind_sorted plain_sorted entry_sorted (args_sorted1 _) ?_
 unfold Builtin.«sorted»
 refine wpAny_bind (m:=checkCount "sorted" 1 1 _) (wpAny_pure ?_)
 refine wpAny_bind (collect_list hl ?_ (by rw [sizeLine_eq]; lia))
 refine wpAny_bind (wpAny_newList ?_ (by rw [sizeLine_eq]; lia))
 have hsz:((s.heap.push (seqObj "list" #[] 0)).update s.heap.objs.size (Obj.mapSeq (· ++ vs.toArray))).objs.size=s.heap.objs.size + 1:=by
  rw [Heap.size_update,size_push']
 have hoL:(((s.heap.push (seqObj "list" #[] 0)).update s.heap.objs.size (Obj.mapSeq (· ++ vs.toArray))).push (seqObj "list" vs.toArray 0)).get? (s.heap.objs.size + 1)=some (seqObj "list" vs.toArray 0):=by
  rw [← hsz]; exact Heap.get?_push_size _ rfl
 have keep:∀ b o,s.heap.get? b=some o→(((s.heap.push (seqObj "list" #[] 0)).update s.heap.objs.size (Obj.mapSeq (· ++ vs.toArray))).push (seqObj "list" vs.toArray 0)).get? b=some o:=fun b o q=>by
  have hlt:b < s.heap.objs.size:=Heap.lt_size q
  rw [Heap.get?_push_ne _ _ _ (by rw [hsz]; exact Nat.ne_of_lt (Nat.lt_succ_of_lt hlt)),Heap.get?_update_ne _ _ _ _ (Nat.ne_of_lt hlt),Heap.get?_push_ne _ _ _ (Nat.ne_of_lt hlt)]
  exact q
 show wpAny _ _ _ _ _ { s with heap:=((s.heap.push (seqObj "list" #[] 0)).update s.heap.objs.size (Obj.mapSeq (· ++ vs.toArray))).push (seqObj "list" vs.toArray 0) }
 rw [hsz]
 have up:∀ (h':Heap),(∀ b o,b≠s.heap.objs.size + 1→(((s.heap.push (seqObj "list" #[] 0)).update s.heap.objs.size (Obj.mapSeq (· ++ vs.toArray))).push (seqObj "list" vs.toArray 0)).get? b=some o→h'.get? b=some o)→∀ b o,s.heap.get? b=some o→h'.get? b=some o:=fun h' q b o e=>q b o (Nat.ne_of_lt (Nat.lt_succ_of_lt (Heap.lt_size e))) (keep b o e)
 refine wpAny_bind (wpAny_holding (wpAny_call_entry slot_list_sort ⟨_,hoL,rfl⟩ entry_list_sort ?_ (args_list_sort _)))
 refine zmc (s:={ s with heap:=((s.heap.push (seqObj "list" #[] 0)).update s.heap.objs.size (Obj.mapSeq (· ++ vs.toArray))).push (seqObj "list" vs.toArray 0) }) hoL h64 hlen h1 (fun hn s' q=>h2 hn _ s' _ (up s'.heap q)) fun h' c q ho=>?_
 exact ⟨_,rfl,wpAny_pure ⟨_,rfl,k h' c (up h' q) ho⟩⟩
end
theorem y3:∀ {ks:List Int},rising ks=true→∀ i j:Nat,i < j→∀ a b,ks[i]?=some a→ks[j]?=some b→a < b
 | [],_,i,j,_,a,b,e,_=>by exact za e
 | [_],_,i,j,hij,a,b,_,e=>by
  cases j with
  | zero=>lia
  | succ j=>exact za e
 | x :: y :: r,h,i,j,hij,a,b,e1,e2=>by
  obtain ⟨h1,h2⟩:=Bool.and_eq_true_iff.1 (h:(decide (x < y) && rising (y :: r))=true)
  have h1:x < y:=of_decide_eq_true h1
  cases j with
  | zero=>lia
  | succ j =>
   cases i with
   | succ i=>exact y3 h2 i j (by lia) a b e1 e2
   | zero =>
    cases e1
    cases j with
    | zero=>cases e2; exact h1
    | succ j=>exact Int.lt_trans h1 (y3 h2 0 (j + 1) (by lia) y b rfl e2)
theorem zdd (x:Int):∀ {ks:List Int},rising ks=true→x ∉ ks→x4 x ks≤ks.length∧∀ (i:Nat) (a:Int),ks[i]?=some a→(i < x4 x ks→a < x)∧(x4 x ks≤i→x < a)
 | [],_,_=>⟨Nat.le_refl _,fun i a e=>by cases e⟩
 | k :: r,h,hx=>by
  have hr:rising r=true:=by
   cases r with
   | nil=>rfl
   | cons y r=>exact (Bool.and_eq_true_iff.1 (h:(decide (k < y) && rising (y :: r))=true)).2
  obtain ⟨h1,h2⟩:=zdd x hr fun q=>hx (List.mem_cons_of_mem _ q)
  rw [x4]
  split
  ·rename_i hlt
   refine ⟨Nat.zero_le _,fun i a e=>⟨fun q=>absurd q (Nat.not_lt_zero _),fun _=>?_⟩⟩
   cases i with
   | zero=>cases e; exact hlt
   | succ i=>exact Int.lt_trans hlt (y3 h 0 (i + 1) (by lia) k a rfl e)
  ·rename_i hlt
   have hne:k≠x:=fun q=>hx (q ▸ List.mem_cons_self ..)
   refine ⟨Nat.succ_le_succ h1,fun i a e=>?_⟩
   cases i with
   | zero=>cases e; exact ⟨fun _=>by lia,fun q=>by lia⟩
   | succ i=>exact ⟨fun q=>(h2 i a e).1 (by lia),fun q=>(h2 i a e).2 (by lia)⟩
theorem zc0 {ks:List Int}{x:Int} (hr:rising ks=true) (hx:x ∉ ks) {i j:Nat} (hij:i≠j) {a b:Int} (ha:(ks ++ [x])[i]?=some a) (hb:(ks ++ [x])[j]?=some b):decide (a < b)=tbl ks.length (x4 x ks) i j:=by
 obtain ⟨hp,hpos⟩:=zdd x hr hx
 have last:∀ {i:Nat}{a:Int},¬ i < ks.length→(ks ++ [x])[i]?=some a→i=ks.length∧a=x:=fun {i a} hn e=>by
  rw [List.getElem?_append_right (by lia)] at e
  have:i - ks.length=0:=by
   cases hz:i - ks.length with
   | zero=>rfl
   | succ m=>rw [hz] at e; exact za e
  rw [this] at e; cases e; exact ⟨by lia,rfl⟩
 unfold tbl
 by_cases hi:i < ks.length
 ·rw [if_pos hi]
  rw [List.getElem?_append_left hi] at ha
  by_cases hj:j < ks.length
  ·rw [if_pos hj]
   rw [List.getElem?_append_left hj] at hb
   by_cases h:i < j
   ·rw [decide_eq_true h,decide_eq_true (y3 hr i j h a b ha hb)]
   ·have:=y3 hr j i (by lia) b a hb ha
    rw [decide_eq_false h,decide_eq_false (by lia)]
  ·obtain ⟨_,rfl⟩:=last hj hb
   rw [if_neg hj]
   by_cases h:i < x4 b ks
   ·rw [decide_eq_true h,decide_eq_true ((hpos i a ha).1 h)]
   ·have:=(hpos i a ha).2 (by lia)
    rw [decide_eq_false h,decide_eq_false (by lia)]
 ·obtain ⟨hi2,rfl⟩:=last hi ha
  rw [if_neg hi]
  have hj:j < ks.length:=by
   have:j < (ks ++ [a]).length:=by
    rw [List.getElem?_eq_some_iff] at hb; exact hb.1
   rw [List.length_append] at this
   have:j < ks.length + 1:=this
   lia
  rw [List.getElem?_append_left hj] at hb
  by_cases h:x4 a ks≤j
  ·rw [decide_eq_true h,decide_eq_true ((hpos j b hb).2 h)]
  ·have:=(hpos j b hb).1 (by lia)
   rw [decide_eq_false h,decide_eq_false (by lia)]
section
variable {G:Gd}{N:Names}{C:Calls}{d:Dp}{sc:Sc}{Γ:Gam}{A:Around}{t:Tie}{st st':MS}{s:Shared}{env:Env}{loc:Loc}{X Y Z:V}{v w:Value}
theorem zaq {x:V}{l:List V}{ks:List Int} (e:(x :: l).mapM jd=some ks):∃ k ks',jd x=some k∧l.mapM jd=some ks'∧ks=k :: ks':=by
 rw [List.mapM_cons] at e
 cases hx:jd x with
 | none=>rw [hx] at e; exact za e
 | some k =>
  rw [hx] at e
  cases hm:l.mapM jd with
  | none=>rw [hm] at e; exact za e
  | some ks'=>rw [hm] at e; cases e; exact ⟨k,ks',rfl,rfl,rfl⟩
theorem zae:∀ {l:List V}{ks:List Int},l.mapM jd=some ks→l.length=ks.length
 | [],_,e=>by cases e; rfl
 | _ :: _,_,e=>by obtain ⟨k,ks',_,h,rfl⟩:=zaq e; exact congrArg Nat.succ (zae h)
theorem zfd {x:V}{k:Int} (e:jd x=some k):∃ m,x=.tup (.int k :: m):=by
 cases x with
 | tup m=>cases m with
  | nil=>exact za e
  | cons y m=>cases y with
   | int k'=>cases e; exact ⟨m,rfl⟩
   | _=>exact za e
 | _=>exact za e
theorem zcw {h:Heap}{k:Int}{m:List V} (a:VRel t h (.tup (.int k :: m)) v):∃ tk ad us n,v=.ref ad∧h.get? ad=some { cls:=.type "tuple",data:=.seq us n }∧us[0]?=some (.int k tk):=by
 obtain ⟨ad,us,hv,⟨n,ho⟩,_,_,u,us',hus,⟨tk,hu⟩,_⟩:=a
 exact ⟨tk,ad,us,n,hv,ho,by rw [← Array.getElem?_toList,hus,hu]; rfl⟩
theorem mj {h:Heap}:∀ {l:List V}{vs:List Value}{ks:List Int},l.mapM jd=some ks→VRels t h l vs→∃ fs,KatTups h vs fs∧fs.length=ks.length∧∀ (i:Nat) (k:Int),ks[i]?=some k→∃ tk,fs[i]?=some (.int k tk)
 | [],_,ks,e,r=>by cases e; cases r; exact ⟨[],trivial,rfl,fun i k e=>za e⟩
 | x :: l,_,ks,e,⟨v,r,e0,a,b⟩=>by
  obtain ⟨k,ks',hx,hm,rfl⟩:=zaq e
  obtain ⟨fs,h1,h2,h3⟩:=mj hm b
  obtain ⟨m,rfl⟩:=zfd hx
  obtain ⟨tk,ad,us,n,hv,ho,h0⟩:=zcw a
  rw [e0]
  refine ⟨.int k tk :: fs,⟨⟨ad,_,us,n,hv,ho,rfl,rfl,h0⟩,h1⟩,congrArg Nat.succ h2,fun i k' e=>?_⟩
  cases i with
  | zero=>cases e; exact ⟨tk,rfl⟩
  | succ i=>exact h3 i k' e
theorem ae {h:Heap}:∀ {vs fs:List Value},KatTups h vs fs→∀ (i:Nat) (f:Value),fs[i]?=some f→∃ a o xs n,vs[i]?=some (.ref a)∧h.get? a=some o∧o.data=.seq xs n∧xs[0]?=some f
 | [],[],_,i,f,e=>za e
 | [],_ :: _,k,_,_,_=>False.elim k
 | _ :: _,[],k,_,_,_=>False.elim k
 | v :: vs,g :: fs,k,i,f,e=>by
  cases i with
  | zero =>
   obtain ⟨⟨a,o,xs,n,hv,h1,h2,h3,h4⟩,_⟩:=k
   cases e
   exact ⟨a,o,xs,n,congrArg some hv,h1,h3,h4⟩
  | succ i=>exact ae k.2 i f e
theorem bc {h h':Heap} (k:∀ b o,h.get? b=some o→h'.get? b=some o):∀ {vs fs:List Value},KatTups h vs fs→KatTups h' vs fs
 | [],[],_=>trivial
 | v :: vs,g :: fs,⟨⟨a,o,xs,n,e,h1,r⟩,q⟩=>⟨⟨a,o,xs,n,e,k a o h1,r⟩,bc k q⟩
theorem VRels.getD {h:Heap}:∀ {l:List V}{vs:List Value} (i:Nat),i < l.length→VRels t h l vs→VRel t h (l.getD i .none) (vs.getD i .none)
 | [],_,i,hi,_=>absurd hi (Nat.not_lt_zero _)
 | x :: l,_,0,_,⟨v,r,rfl,a,b⟩=>a
 | x :: l,_,i + 1,hi,⟨v,r,rfl,a,b⟩=>VRels.getD i (Nat.lt_of_succ_lt_succ hi) b
theorem VRels.pick {h:Heap}{l:List V}{vs:List Value} (r:VRels t h l vs):∀ p:List Nat,(∀ i∈p,i < l.length)→VRels t h (p.map fun i=>l.getD i .none) (p.map fun i=>vs.getD i .none)
 | [],_=>rfl
 | i :: p,hp=>⟨_,_,rfl,VRels.getD i (hp i (List.mem_cons_self ..)) r,VRels.pick r p fun j hj=>hp j (List.mem_cons_of_mem _ hj)⟩
theorem zp9 {α:Type}{c:Bool}{a b:α} (h:(if c=true then some a else none)=some b):c=true∧a=b:=by
 cases c with
 | true=>cases h; exact ⟨rfl,rfl⟩
 | false=>exact za h
theorem zng {m pos i j:Nat} (hi:i≤m) (hj:j≤m) (hij:i≠j):tbl m pos i j=true∨tbl m pos j i=true:=by
 unfold tbl
 by_cases h1:i < m
 ·by_cases h2:j < m
  ·rw [if_pos h1,if_pos h2,if_pos h2,if_pos h1]
   rcases Nat.lt_or_gt_of_ne hij with h | h
   ·exact .inl (decide_eq_true h)
   ·exact .inr (decide_eq_true h)
  ·rw [if_pos h1,if_neg h2,if_neg h2]
   rcases Nat.lt_or_ge i pos with h | h
   ·exact .inl (decide_eq_true h)
   ·exact .inr (decide_eq_true h)
 ·have h2:j < m:=by lia
  rw [if_neg h1,if_pos h2,if_neg h1]
  rcases Nat.lt_or_ge j pos with h | h
  ·exact .inr (decide_eq_true h)
  ·exact .inl (decide_eq_true h)
theorem mz {l m:List V} (e:jz l=some m):(l=[]∧m=[])∨∃ ks x,l.mapM jd=some (ks ++ [x])∧rising ks=true∧x ∉ ks∧l.length=ks.length + 1∧ks.length≤5∧m=(y7 ks.length (x4 x ks)).map fun i=>l.getD i .none:=by
 cases hr:l.reverse with
 | nil =>
  have hl:l=[]:=by rw [← List.reverse_reverse l,hr]; rfl
  rw [jz,hr] at e
  cases e; exact .inl ⟨hl,rfl⟩
 | cons y r =>
  have hl:l=r.reverse ++ [y]:=by rw [← List.reverse_reverse l,hr,List.reverse_cons]
  rw [jz,hr] at e
  have e:(match jd y,(r.reverse).mapM jd with
   | some x,some ks=>if (rising ks && !ks.contains x && decide (l.length≤6))=true then some ((y7 ks.length (x4 x ks)).map fun i=>l.getD i .none) else none
   | _,_=>none)=some m:=e
  cases h1:jd y with
  | none=>rw [h1] at e; exact za e
  | some x =>
   cases h2:(r.reverse).mapM jd with
   | none=>rw [h1,h2] at e; exact za e
   | some ks =>
    rw [h1,h2] at e
    have e:(if (rising ks && !ks.contains x && decide (l.length≤6))=true then some ((y7 ks.length (x4 x ks)).map fun i=>l.getD i .none) else none)=some m:=e
    obtain ⟨hc,e⟩:=zp9 e
    obtain ⟨hc,q3⟩:=Bool.and_eq_true_iff.1 hc
    obtain ⟨q1,q2⟩:=Bool.and_eq_true_iff.1 hc
    have hn:l.length=ks.length + 1:=by rw [hl,List.length_append,zae h2]; rfl
    refine .inr ⟨ks,x,?_,q1,fun q=>?_,hn,by have:=of_decide_eq_true q3; lia,e.symm⟩
    ·rw [hl,List.mapM_append,h2,List.mapM_cons,h1]; rfl
    ·rw [List.contains_iff_mem.2 q] at q2; exact qg q2
theorem znr {m pos:Nat} (h:pos≤m):(y7 m pos).length=m + 1∧∀ i∈y7 m pos,i < m + 1:=by
 refine ⟨by rw [y7,List.length_append,List.length_cons,List.length_map,List.length_range,List.length_range]; lia,fun i hi=>?_⟩
 rcases List.mem_append.1 hi with hi | hi
 ·have:=List.mem_range.1 hi; lia
 ·rcases List.mem_cons.1 hi with hi | hi
  ·lia
  ·obtain ⟨j,hj,rfl⟩:=List.mem_map.1 hi
   have:=List.mem_range.1 hj; lia
theorem zpo:∀ {n pos:Nat},1≤n→n≤5→pos≤n→ng (n + 1) (tbl n pos) (y7 n pos) (kas_sort (n + 1))=true
 | 0,_,h,_,_=>absurd h (Nat.not_succ_le_zero 0)
 | m + 1,pos,_,h5,hp=>zqz ⟨m,h5⟩ ⟨pos,Nat.lt_succ_of_le hp⟩
theorem znv {ks:List Int}{x:Int} (hr:rising ks=true) (hx:x ∉ ks) {i j:Nat} (hi:i < (ks ++ [x]).length) (hj:j < (ks ++ [x]).length) (hij:i≠j):((ks ++ [x])[i] == (ks ++ [x])[j])=false:=by
 rw [beq_eq_false_iff_ne]
 intro z
 have h1:=zc0 hr hx hij (List.getElem?_eq_getElem hi) (List.getElem?_eq_getElem hj)
 have h2:=zc0 hr hx (Ne.symm hij) (List.getElem?_eq_getElem hj) (List.getElem?_eq_getElem hi)
 rw [z,decide_eq_false (Int.lt_irrefl _)] at h1 h2
 rw [List.length_append] at hi hj
 rcases zng (m:=ks.length) (pos:=x4 x ks) (Nat.le_of_lt_succ hi) (Nat.le_of_lt_succ hj) hij with h | h
 ·rw [h] at h1; exact qg h1
 ·rw [h] at h2; exact qg h2
theorem zhh {xs ys:Array Value}{a b:Value} (h1:xs[0]?=some a) (h2:ys[0]?=some b):∃ r,xs.toList.zip ys.toList=(a,b) :: r:=by
 rw [← Array.getElem?_toList] at h1 h2
 cases hxs:xs.toList with
 | nil=>rw [hxs] at h1; exact za h1
 | cons a r=>cases hys:ys.toList with
  | nil=>rw [hys] at h2; exact za h2
  | cons b r'=>rw [hxs] at h1; rw [hys] at h2; cases h1; cases h2; exact ⟨_,rfl⟩
theorem zjl {vs:List Value} (h:vs.length=1):[vs.getD 0 .none]=vs:=by
 obtain ⟨y,rfl⟩:=List.length_eq_one_iff.1 h; rfl
theorem zbb {m:List V}{out:List Value}{Q:Value→Shared→Prop} (R:Rel G t st s) (q:∀ v t' s',Step noX t t' s s'→Rel G t' st s'→q7 (.lst m) t' s' v→Q v s') (ro:VRels t s.heap m out) (hm:m.length≤zf)
  (h':Heap) (c:Nat) (hk:∀ b o,s.heap.get? b=some o→h'.get? b=some o) (ho:h'.get? (s.heap.objs.size + 1)=some (seqObj "list" out.toArray c)):Q (.ref (s.heap.objs.size + 1)) { s with heap:=h' }:=by
 have S:Step noX t t s { s with heap:=h' }:=Step.grow R hk rfl rfl
 exact q _ t _ S (R.grow hk rfl rfl) ⟨_,out.toArray,rfl,⟨c,ho⟩,R.fresh (ud _),hm,VRels.step S (fun _ z=>z.elim) _ ro⟩
theorem ij (R:Rel G t st s) {l m:List V} (r:VRel t s.heap (.lst l) v) (e:jz l=some m):Sim G A t s (call (.builtin "sorted") [v]) st (q7 (.lst m)):=by
 obtain ⟨a,vs,rfl,io,na,sz,rr⟩:=r
 have hvl:vs.toList.length=l.length:=rr.length
 have hlst:s.heap.IsList a vs.toList.toArray:=by rw [Array.toArray_toList]; exact io.isList
 intro Q E q
 rcases mz e with ⟨rfl,rfl⟩ | ⟨ks,x,hm,hr,hx,hln,h5,rfl⟩
 ·have h0:vs.toList=[]:=List.length_eq_zero_iff.1 hvl
  exact oh (out:=[]) hlst (by rw [h0]; decide) (by rw [h0]) (fun _=>h0.symm) (fun h=>by rw [h0] at h; exact absurd h (by decide)) (zbb R q rfl (Nat.zero_le _))
 ·obtain ⟨hp,-⟩:=zdd x hr hx
  obtain ⟨w1,w2⟩:=znr hp
  obtain ⟨fs,k1,k2,k3⟩:=mj hm rr
  have hk0:(ks ++ [x]).length=ks.length + 1:=List.length_append
  have hvn:vs.toList.length=ks.length + 1:=hvl.trans hln
  have h6:ks.length + 1≤6:=Nat.succ_le_succ h5
  refine oh (out:=(y7 ks.length (x4 x ks)).map fun i=>vs.toList.getD i .none) hlst (by rw [hvn]; exact Nat.lt_of_le_of_lt h6 (by decide)) (by rw [List.length_map,w1,hvn]) (fun h=>?_) (fun h2 A' s' E' hk=>?_) (zbb R q (VRels.pick rr _ fun i hi=>by rw [hln]; exact w2 i hi) (by rw [List.length_map,w1]; exact Nat.le_trans h6 (by decide)))
  ·rw [hvn] at h
   cases List.length_eq_zero_iff.1 (Nat.lt_one_iff.1 (Nat.lt_of_succ_lt_succ h))
   exact zjl hvn
  ·refine kat_kind (T:=.type "int") (bc hk k1) (by rw [k2,hk0]; exact Nat.succ_pos _) (fun f hf=>?_) rfl ?_
   ·obtain ⟨i,hi,rfl⟩:=List.mem_iff_getElem.1 hf
    rw [k2] at hi
    obtain ⟨tk,q1⟩:=k3 i _ (List.getElem?_eq_getElem hi)
    rw [List.getElem?_eq_getElem (by rw [k2]; exact hi)] at q1
    rw [Option.some.inj q1]
    exact Looks.of_pure rfl
   ·rw [hvn] at h2 ⊢
    refine zhw (n:=ks.length + 1) (fun i j hi hj hij C hC=>?_) (fun a ha=>⟨rfl,by rw [ha]⟩) _ (zpo (Nat.le_of_succ_le_succ h2) h5 hp)
    rw [← hk0] at hi hj
    obtain ⟨ti,f1⟩:=k3 i _ (List.getElem?_eq_getElem hi)
    obtain ⟨tj,f2⟩:=k3 j _ (List.getElem?_eq_getElem hj)
    obtain ⟨ai,oi,xs,ni,g1,g2,g3,g4⟩:=ae (bc hk k1) i _ f1
    obtain ⟨aj,oj,ys,nj,h1,h2,h3,h4⟩:=ae (bc hk k1) j _ f2
    unfold kas_ask
    rw [List.getD_eq_getElem?_getD,List.getD_eq_getElem?_getD,g1,h1]
    obtain ⟨rest,hz⟩:=zhh g4 h4
    refine kat_lt g2 g3 h2 h3 ?_
    rw [hz]
    refine kat_cons (wpAny_eqBool_int ?_)
    rw [znv hr hx hi hj hij]
    exact kat_no (oneLt_int (by rw [zc0 hr hx hij (List.getElem?_eq_getElem hi) (List.getElem?_eq_getElem hj)]; exact hC))
theorem zgd (hq:d.q=true) (O:G.Ok N) {p:Prim}{l:List E}{m:List PySem.Expr}{np pos:Pos} (hg:k8 sc (vr p)=true) (hm:qk m=true) (hlm:l.length=m.length) (hl:v7 G C d sc Γ l m) :
  qb G C d sc Γ (.prim p l) (.Call (.Name (vr p) np) m [] pos):=by
 cases hp:fu p with
 | true=>exact zj5 hq O hp hg hm hlm hl
 | false =>
  obtain rfl:p=.sorted:=by cases p <;> first | rfl | exact zej hp
  intro t st s env loc X st' A hA hsc F R e Q E k
  rw [ss] at e
  obtain ⟨Vs,s1,e1,e⟩:=Res.bind_ok e
  refine wpAny_Call_ofName (xd (v:=.builtin "sorted") O F R hsc hg (sj .sorted) (by decide +kernel) ?_)
  refine v9 O (gy _) hm hlm hl hA hsc F R e1 fun vs t1 σ1 S1 R1 r1=>?_
  cases Vs with
  | nil=>exact zd e
  | cons V Vs=>cases Vs with
   | nil =>
    obtain ⟨v,_,rfl,r1,rfl⟩:=r1
    obtain ⟨l,rfl,e⟩:=zel e
    obtain ⟨m,hs,e⟩:=s9 e
    obtain ⟨rfl,rfl⟩:=jx e
    exact ij R1 r1 hs _ _ fun v t2 σ2 S2 R2 r2=>k v t2 σ2 (S1.trans S2) R2 r2
   | cons W Vs=>cases Vs <;> exact zd e
end
end Mine
end
section
namespace Mine
end Mine
end
section
namespace Mine
open PySem PySem.W PyProof.Rows
section
variable {G:Gd}{N:Names}{C:Calls}{d:Dp}{sc:Sc}{Γ:Gam}{A:Around}{t t':Tie}{st st':MS}{s:Shared}{env:Env}{loc:Loc}{X Y Z:V}{v w:Value}{n:Nat}{h:Heap}
noncomputable def vbm:List Value:=[.type "ValueError",.type "Exception",.type "BaseException",.type "object"]
noncomputable abbrev zso (G:Gd) (x:PySem.Str) (c:Nat):Prop:=OwnCls x c vbm "ValueError.__new__" G.mg G.h₀
noncomputable def zli (G:Gd) (C:Calls) (d:Dp) (xf:Nat→Bool):Prop:=True
noncomputable def dj (G:Gd) (C:Calls) (n:Nat) (qf:Nat→Bool):Prop:=∀ f,qf f=true→pw G C ⟨n,false⟩ f
set_option genCtorIdx false in
structure CallsA (G:Gd) (xf qf:Nat→Bool) (C:Calls) (n:Nat):Prop where
 ok:lf G C ⟨n,true⟩
 x:zli G C ⟨n,true⟩ xf
 q:dj G C n qf
theorem zme {P:Prog}{f:Nat}{vs:List V}{X:V} (e:run P (n + 1) f vs st=.ok X st'):∃ fn p,P.fns f=some fn∧vs.length=fn.np∧exs P (run P n) n fn.body (vs.map some ++ List.replicate (fn.names.length - fn.np) none) st=.ok p st'∧X=(match p.1 with | .ret v=>v | .next=>.none):=by
 simp only [run] at e
 split at e
 case h_2=>exact zd e
 rename_i fn hf
 split at e
 case isFalse=>exact zd e
 rename_i hnp
 obtain ⟨p,s1,e1,e⟩:=Res.bind_ok e
 cases e
 exact ⟨fn,p,hf,hnp,e1,rfl⟩
theorem zal (O:G.Ok N) {q:Bool}{PX:Calls→Nat→Prop}{f:Nat} (hfn:∀ fn,G.P.fns f=some fn→∃ a,G.fa f=some a∧FnRec G q PX fn a) (px:PX (run G.P n) n):pw G (run G.P (n + 1)) ⟨n + 1,q⟩ f:=by
 intro vs st X st' e A hA
 obtain ⟨fn,p,hf,hnp,e1,h1⟩:=zme e
 obtain ⟨a,ha,rec⟩:=hfn fn hf
 exact ⟨a,ha,fun t s args K R r B k=>zky O rec px hA K R r hnp e1 fun v t' s' S' R' rv=>k v t' s' S' R' (by rw [h1]; exact rv)⟩
theorem fq (O:G.Ok N) {xf qf:Nat→Bool} (hfn:∀ f fn,G.P.fns f=some fn→∃ a,G.fa f=some a∧FnRec G true (CallsA G xf qf) fn a)
  (hq:∀ f fn,qf f=true→G.P.fns f=some fn→∃ a,G.fa f=some a∧FnRec G false (fun C n=>dj G C n qf) fn a):∀ n,CallsA G xf qf (run G.P n) n
 | 0=>⟨fun f vs st X st' e=>(by cases e),trivial,fun f _ vs st X st' e=>(by cases e)⟩
 | n + 1 =>
  have ih:=fq O hfn hq n
  ⟨fun f=>zal O (hfn f) ih,trivial,fun f qq=>zal O (fun fn=>hq f fn qq) ih.q⟩
end
end Mine
end
section
namespace Mine
open PySem PySem.W PyProof.Rows PySem.Spec PySem.Calls Builtin Builtin.ObjectAttr Builtin.Getset_descriptor
section
variable {G:Gd}{N:Names}{C:Calls}{d:Dp}{sc:Sc}{Γ:Gam}{A:Around}{t t':Tie}{st st':MS}{s:Shared}{env:Env}{loc:Loc}{X Y Z:V}{v w:Value}{n:Nat}{h:Heap}
noncomputable def zml (K:Frag) (c:Nat):Bool:=decide (findIn K (.ref c) "__getattribute__"=some (some (.builtin "BaseException.__getattribute__"))) && decide (findIn K (.ref c) "__getattr__"=some none) && decide (mroIn K c (.type "BaseException")=some true) && decide (findIn K (.ref c) "__class__"=some (some (.builtin "object.__class__"))) && decide (specialIn K (.builtin "object.__class__") "__get__"=some (some (.builtin "getset_descriptor.__get__"))) &&
 decide (takesIn K (.builtin "object.__class__")=some true) && decide (mroIn K c (.type "object")=some true) && (clsIn K c).isSome
noncomputable def sd (k:Nat):Value:=if k=0 then .type "ValueError" else .ref k
end
end Mine
end
section
namespace Mine
open PySem PySem.W PyProof.Rows
inductive Ck (p:Prop):Type where
 | yes (h:p)
 | no
noncomputable def Ck.bind {p q:Prop} (a:Ck p) (k:p→Ck q):Ck q:=Ck.rec (motive:=fun _=>Ck q) k .no a
noncomputable def Ck.isYes {p:Prop} (a:Ck p):Bool:=Ck.rec (fun _=>true) false a
theorem Ck.get {p:Prop}{a:Ck p} (h:a.isYes=true):p:=by
 cases a with
 | yes g=>exact g
 | no=>exact qg h
theorem f7 {a b:Bool} (h:(a && b)=true):a=true∧b=true:=by cases a <;> cases b <;> first | exact ⟨rfl,rfl⟩ | exact qg h
class No (α:Type) where
 no:α
noncomputable instance {p:Prop}:No (Ck p):=⟨.no⟩
noncomputable def wb {α:Type} [No α] (b:Bool) (k:b=true→α):α:=Bool.rec (motive:=fun b=>(b=true→α)→α) (fun _=>No.no) (fun k=>k rfl) b k
noncomputable def wk {p:Prop}{α:Type} [No α] (a:Ck p) (k:p→α):α:=Ck.rec (motive:=fun _=>α) k No.no a
@[elab_as_elim] noncomputable def wq {α:Type} [BEq α] [LawfulBEq α] {P:α→Type} [∀ x,No (P x)] (a b:α) (k:P a):P b:=wb (a == b) fun h=>eq_of_beq h ▸ k
section
variable {P:PySem.Expr→Type} [∀ x,No (P x)]
@[elab_as_elim] noncomputable def da (x:PySem.Expr) (f:∀ y p,P (.Name y p)):P x:=wb (Nat.beq x.ctorIdx 23) fun h=>PySem.Expr.Name.elim x (Nat.eq_of_beq_eq_true h) f
@[elab_as_elim] noncomputable def zqs (x:PySem.Expr) (f:∀ y k p,P (.Constant y k p)):P x:=wb (Nat.beq x.ctorIdx 19) fun h=>PySem.Expr.Constant.elim x (Nat.eq_of_beq_eq_true h) f
@[elab_as_elim] noncomputable def wUn (x:PySem.Expr) (f:∀ o a p,P (.UnaryOp o a p)):P x:=wb (Nat.beq x.ctorIdx 3) fun h=>PySem.Expr.UnaryOp.elim x (Nat.eq_of_beq_eq_true h) f
@[elab_as_elim] noncomputable def zpc (x:PySem.Expr) (f:∀ o a p,P (.BoolOp o a p)):P x:=wb (Nat.beq x.ctorIdx 0) fun h=>PySem.Expr.BoolOp.elim x (Nat.eq_of_beq_eq_true h) f
@[elab_as_elim] noncomputable def zwu (x:PySem.Expr) (f:∀ a o b p,P (.BinOp a o b p)):P x:=wb (Nat.beq x.ctorIdx 2) fun h=>PySem.Expr.BinOp.elim x (Nat.eq_of_beq_eq_true h) f
@[elab_as_elim] noncomputable def zqi (x:PySem.Expr) (f:∀ a o b p,P (.Compare a o b p)):P x:=wb (Nat.beq x.ctorIdx 15) fun h=>PySem.Expr.Compare.elim x (Nat.eq_of_beq_eq_true h) f
@[elab_as_elim] noncomputable def zqm (x:PySem.Expr) (f:∀ a o p,P (.Tuple a o p)):P x:=wb (Nat.beq x.ctorIdx 25) fun h=>PySem.Expr.Tuple.elim x (Nat.eq_of_beq_eq_true h) f
@[elab_as_elim] noncomputable def zo2 (x:PySem.Expr) (f:∀ a p,P (.List a p)):P x:=wb (Nat.beq x.ctorIdx 24) fun h=>PySem.Expr.List.elim x (Nat.eq_of_beq_eq_true h) f
@[elab_as_elim] noncomputable def zwg (x:PySem.Expr) (f:∀ a b p,P (.Dict a b p)):P x:=wb (Nat.beq x.ctorIdx 6) fun h=>PySem.Expr.Dict.elim x (Nat.eq_of_beq_eq_true h) f
@[elab_as_elim] noncomputable def zmb (x:PySem.Expr) (f:∀ a b p,P (.Subscript a b p)):P x:=wb (Nat.beq x.ctorIdx 21) fun h=>PySem.Expr.Subscript.elim x (Nat.eq_of_beq_eq_true h) f
@[elab_as_elim] noncomputable def zpr (x:PySem.Expr) (f:∀ a b c p,P (.Slice a b c p)):P x:=wb (Nat.beq x.ctorIdx 26) fun h=>PySem.Expr.Slice.elim x (Nat.eq_of_beq_eq_true h) f
@[elab_as_elim] noncomputable def zis (x:PySem.Expr) (f:∀ a b p,P (.Attribute a b p)):P x:=wb (Nat.beq x.ctorIdx 20) fun h=>PySem.Expr.Attribute.elim x (Nat.eq_of_beq_eq_true h) f
@[elab_as_elim] noncomputable def zo3 (x:PySem.Expr) (f:∀ a b c p,P (.Call a b c p)):P x:=wb (Nat.beq x.ctorIdx 16) fun h=>PySem.Expr.Call.elim x (Nat.eq_of_beq_eq_true h) f
@[elab_as_elim] noncomputable def zsj (x:PySem.Expr) (f:∀ a b c p,P (.ListComp a b c p)):P x:=wb (Nat.beq x.ctorIdx 8) fun h=>PySem.Expr.ListComp.elim x (Nat.eq_of_beq_eq_true h) f
end
section
variable {α:Type}{P:List α→Type} [∀ x,No (P x)]
@[elab_as_elim] noncomputable def w0 (l:List α) (f:P []):P l:=List.rec (motive:=fun l=>P l) f (fun _ _ _=>No.no) l
@[elab_as_elim] noncomputable def wc (l:List α) (f:∀ a r,P (a :: r)):P l:=List.rec (motive:=fun l=>P l) No.no (fun a r _=>f a r) l
@[elab_as_elim] noncomputable def w1 (l:List α) (f:∀ a,P [a]):P l:=wc l fun a r=>w0 (P:=fun r=>P (a :: r)) r (f a)
@[elab_as_elim] noncomputable def w2 (l:List α) (f:∀ a b,P [a,b]):P l:=wc l fun a r=>w1 (P:=fun r=>P (a :: r)) r (f a)
variable {Q:Option α→Type} [∀ x,No (Q x)]
@[elab_as_elim] noncomputable def wn (l:Option α) (f:Q none):Q l:=Option.rec (motive:=fun l=>Q l) f (fun _=>No.no) l
@[elab_as_elim] noncomputable def ws (l:Option α) (f:∀ a,Q (some a)):Q l:=Option.rec (motive:=fun l=>Q l) No.no f l
end
section
variable {P:PySem.Expr→Type} [∀ x,No (P x)]
@[elab_as_elim] noncomputable def bt (x:PySem.Expr) (n:PySem.Str) (f:∀ np l p,P (.Call (.Name n np) l [] p)):P x :=
 zo3 x fun a l k p=>da (P:=fun a=>P (.Call a l k p)) a fun y np=>wq (P:=fun y=>P (.Call (.Name y np) l k p)) n y (w0 (P:=fun k=>P (.Call (.Name n np) l k p)) k (f np l p))
@[elab_as_elim] noncomputable def zjc (x:PySem.Expr) (n:PySem.Str) (f:∀ a ap l p,k4 a=true→(ap.endLine == p.line)=true→l.length < 30→P (.Call (.Attribute a n ap) l [] p)):P x :=
 zo3 x fun b l k p=>zis (P:=fun b=>P (.Call b l k p)) b fun a y ap=>wq (P:=fun y=>P (.Call (.Attribute a y ap) l k p)) n y (w0 (P:=fun k=>P (.Call (.Attribute a n ap) l k p)) k
  (wb (k4 a) fun h1=>wb (ap.endLine == p.line) fun h2=>wb (decide (l.length < 30)) fun h3=>f a ap l p h1 h2 (of_decide_eq_true h3)))
@[elab_as_elim] noncomputable def wK (v:Const) (x:PySem.Expr) (f:∀ k p,P (.Constant v k p)):P x:=zqs x fun c k p=>wb (decide (v=c)) fun h=>of_decide_eq_true h ▸ f k p
end
end Mine
end
section
namespace Mine
open PySem PySem.W PyProof.Rows
set_option genCtorIdx false in
structure Hyp (G:Gd) (N:Names) (C:Calls) (d:Dp):Prop where
 O:G.Ok N
 CO:d.q=true→lf G C d
 hcl:∀ c Ca,G.ca c=some Ca→ClsOk G Ca
 hfn:∀ f a,G.fa f=some a→FnOk G N f a
 hme:∀ c k f Ca,G.P.meths c k=some f→G.ca c=some Ca→∃ a,G.fa f=some a∧MethOk G Ca (N.meth k) a
 hne:∀ c k f,G.P.inits c=some (k,f)→∃ Ca fi,G.ca c=some Ca∧G.fa f=some fi∧NewOk G N c Ca fi
 xw:∀ y c,N.xs.contains (y,c)=true→c≠0∧zso G y c
 xk:∀ c k,(G.P.excBase c).contains c=true→(G.P.excBase c).contains k=true→kitOne G.K (.ref c) (sd k)=some true∧(k≠0→exmOne G.K (.ref c) (.ref k)=some true)
 xm:∀ k c f,N.xm k=true→G.P.meths c k=some f→N.xf f=true
 xi:∀ c k,(G.P.excBase c).contains c=true→(k=0∨∃ y,N.xs.contains (y,k)=true)→zml G.K c=true∧kitOne G.K (.ref c) (sd k)=some ((G.P.excBase c).contains k)
 CX:d.q=true→zli G C d N.xf
 CQ:dj G C d.n N.qf
theorem Hyp.quiet {G:Gd}{N:Names}{C:Calls}{d:Dp} (H:Hyp G N C d):Hyp G N C ⟨d.n,false⟩:=⟨H.O,nofun,H.hcl,H.hfn,H.hme,H.hne,H.xw,H.xk,H.xm,H.xi,nofun,H.CQ⟩
section
variable {G:Gd}{N:Names}{C:Calls}{d:Dp}{sc:Sc}{Γ:Gam}{x:PySem.Expr}
def SimET (G:Gd) (C:Calls) (d:Dp) (sc:Sc) (Γ:Gam) (e:E) (x:PySem.Expr):Prop:=isStarred x=false∧xb x=true∧qb G C d sc Γ e x∧bz G C d sc Γ e x
def SimLs (G:Gd) (C:Calls) (d:Dp) (sc:Sc) (Γ:Gam) (l:List E) (m:List PySem.Expr):Prop:=SimL G C d sc Γ l m∧v7 G C d sc Γ l m∧qk m=true∧l.length=m.length
theorem ju {e:E} (h1:isStarred x=false) (h2:xb x=true) (h3:tq x=true) (h:qb G C d sc Γ e x):SimET G C d sc Γ e x:=⟨h1,h2,h,zb7 h3 h⟩
theorem SimET.e {e:E} (h:SimET G C d sc Γ e x):qb G C d sc Γ e x:=h.2.2.1
theorem SimET.t {e:E} (h:SimET G C d sc Γ e x):bz G C d sc Γ e x:=h.2.2.2
theorem zom {e:E}{l:List E}{m:List PySem.Expr} (h1:SimET G C d sc Γ e x) (h2:SimLs G C d sc Γ l m):SimLs G C d sc Γ (e :: l) (x :: m) :=
 ⟨.cons h1.e h1.t h2.1,yr h1.1 h1.e h2.2.1,by rw [show qk (x :: m)=(!isStarred x && qk m) from rfl,h1.1]; exact h2.2.2.1,congrArg Nat.succ h2.2.2.2⟩
def ItOk' (G:Gd) (C:Calls) (d:Dp) (sc:Sc) (Γ:Gam) (range:Bool) (it:E) (i:PySem.Expr):Prop:=∃ j,IterAst sc range i j∧qb G C d sc Γ it j
noncomputable def ztl (range:Bool) {it:E} (i:PySem.Expr) (f:(x:PySem.Expr)→Ck (SimET G C d sc Γ it x)):Ck (ItOk' G C d sc Γ range it i) :=
 match range with
 | false=>(f i).bind fun h=>.yes ⟨i,.plain i,h.e⟩
 | true=>bt i "range" fun np l p=>wb (k8 sc "range") fun hg=>w1 l fun j=>(f j).bind fun h=>.yes ⟨j,.range hg h.1,h.e⟩
set_option genCtorIdx false in
structure CompAst (G:Gd) (C:Calls) (d:Dp) (sc:Sc) (Γ:Gam) (slot:Nat) (range:Bool) (it:E) (cond:Option E) (elt:E) (e i:PySem.Expr) (y:PySem.Str) (ifs:List PySem.Expr) (scope:Scope):Prop where
 ok:ip sc scope slot Γ y=true
 ns:wx i=true
 it:ItOk' G C d sc Γ range it i
 co:CondSim G C d (qi sc scope.names) (js (qi sc scope.names) Γ slot y) cond ifs
 el:qb G C d (qi sc scope.names) (js (qi sc scope.names) Γ slot y) elt e
@[elab_as_elim] noncomputable def zh9 {P:PySem.Expr→Type} [∀ x,No (P x)] {slot:Nat}{range:Bool}{it:E}{cond:Option E}{elt:E} (x:PySem.Expr) (fi:∀ x,Ck (SimET G C d sc Γ it x)) (fc:∀ sc Γ m,Ck (CondSim G C d sc Γ cond m)) (fe:∀ sc Γ x,Ck (SimET G C d sc Γ elt x))
  (k:∀ e i y px ifs scope pos,CompAst G C d sc Γ slot range it cond elt e i y ifs scope→P (.ListComp e [⟨.Name y px,i,ifs,0⟩] scope pos)):P x :=
 zsj x fun e gs scope pos=>w1 gs fun g=>match g with
  | ⟨t,i,ifs,a⟩=>da t fun y px=>wq (P:=fun a=>P (.ListComp e [⟨.Name y px,i,ifs,a⟩] scope pos)) 0 a
   (wb (ip sc scope slot Γ y) fun h1=>wb (wx i) fun h2=>wk (ztl range i fi) fun h3=>wk (fc (qi sc scope.names) (js (qi sc scope.names) Γ slot y) ifs) fun h4=>wk (fe (qi sc scope.names) (js (qi sc scope.names) Γ slot y) e) fun h5=>k e i y px ifs scope pos ⟨h1,h2,h3,h4,h5.e⟩)
theorem zn6 (hq:d.q=true) (H:Hyp G N C d) {M:Option Nat}{slot:Nat}{range:Bool}{it:E}{cond:Option E}{elt:E}{e i:PySem.Expr}{y:PySem.Str}{px pos:Pos}{ifs:List PySem.Expr}{scope:Scope} (K:CompAst G C d sc Γ slot range it cond elt e i y ifs scope) :
  SimET G C d sc Γ (.comp M slot range it cond elt) (.ListComp e [⟨.Name y px,i,ifs,0⟩] scope pos):=by
 obtain ⟨j,h1,h2⟩:=K.it
 exact ju rfl rfl rfl (za7 hq H.O (p8 K.ok) K.ns h1 h2 K.co K.el)
noncomputable def zpj (H:Hyp G N C d) (f:Nat):Ck (pw G C d f) :=
 match d,H with
 | ⟨_,true⟩,H=>.yes (H.CO rfl f)
 | ⟨_,false⟩,H=>wb (N.qf f) fun h=>.yes (H.CQ f h)
theorem zni (H:Hyp G N C d) {a:E}{i:Nat}{p:Pos} (h2:decide (i < 13)=true) (h3:k4 x=true) (g:SimET G C d sc Γ a x):SimET G C d sc Γ (.attr a i) (.Attribute x (N.attr i) p):=by
 rw [show N.attr i=G.an i from congrFun H.O.attr i]
 exact ju rfl rfl rfl (zi8 H.O H.hcl (of_decide_eq_true h2) h3 g.e)
theorem ze1 {n:PySem.Str} (h:(!(n == Str.empty))=true):n≠Str.empty:=by
 intro e; subst e; exact qg h
noncomputable def zxe {a:E} (H:Hyp G N C d) (sc:Sc) (Γ:Gam) (ks:List Kind) (np:Pos) (y z:PySem.Expr) (p:Pos) (g:SimET G C d sc Γ a y) (hg:k8 sc "isinstance"=true):Ck (SimET G C d sc Γ (.isinst a ks) (.Call (.Name "isinstance" np) [y,z] [] p)) :=
 wc ks fun k r=>wb (xl k) fun h1=>match r with
  | []=>wb (gc N sc k z) fun h2=>.yes (ju rfl rfl rfl (i6 H.O h1 hg g.1 h2 g.e))
  | k' :: r=>w0 r (wb (xl k') fun h2=>zqm z fun zs cx tp=>wb (uw N sc [k,k'] zs) fun h3=>.yes (ju rfl rfl rfl (zbd H.O h1 h2 hg g.1 h3 g.e)))
noncomputable def zw7 (H:Hyp G N C d) {i:Nat} (sc:Sc) (Γ:Gam) (x:PySem.Expr) :Ck (SimET G C d sc Γ (.loc i) x) :=
 da x fun y p=>wb (Γ[i]? == some (some y)) fun h1=>wb (!(y == ("__debug__":PySem.Str))) fun h2=>.yes (ju rfl rfl rfl (zmq (eq_of_beq h1) (Bool.not_eq_true' _ ▸ h2)))
noncomputable def zrt (H:Hyp G N C d) {g:PySem.Str}{i:Int} (sc:Sc) (Γ:Gam) (x:PySem.Expr) :Ck (SimET G C d sc Γ (.gint g i) x) :=
 da x fun y p=>wq g y (wb (k8 sc g) fun h2=>wb (N.gi.contains (g,i)) fun h3=>.yes (ju rfl rfl rfl (zi1 H.O h2 h3)))
noncomputable def zuw (H:Hyp G N C d) {g:PySem.Str}{i:List Nat} (sc:Sc) (Γ:Gam) (x:PySem.Expr) :Ck (SimET G C d sc Γ (.gstr g i) x) :=
 da x fun y p=>wq g y (wb (k8 sc g) fun h2=>wb (N.gs.contains (g,i)) fun h3=>.yes (ju rfl rfl rfl (zhv H.O h2 h3)))
noncomputable def zw2 (H:Hyp G N C d) {a:E} (sc:Sc) (Γ:Gam) (x:PySem.Expr) (ra:∀ y,Ck (SimET G C d sc Γ a y)):Ck (SimET G C d sc Γ (.neg a) x) :=
 wUn x fun o y p=>wq .USub o ((ra y).bind fun g=>.yes (ju rfl rfl rfl (zol g.e)))
noncomputable def zw4 (H:Hyp G N C d) {a:E} (sc:Sc) (Γ:Gam) (x:PySem.Expr) (ra:∀ y,Ck (SimET G C d sc Γ a y)):Ck (SimET G C d sc Γ (.not a) x) :=
 wUn x fun o y p=>wq .Not o ((ra y).bind fun g=>.yes ⟨rfl,rfl,zmo g.e,zi5 g.t⟩)
noncomputable def zwr (H:Hyp G N C d) {l:List E} (sc:Sc) (Γ:Gam) (x:PySem.Expr) (rl:∀ m,Ck (SimLs G C d sc Γ l m)):Ck (SimET G C d sc Γ (.and l) x) :=
 zpc x fun o m p=>wq .And o ((rl m).bind fun g=>.yes ⟨rfl,rfl,zjk g.1,zga g.1⟩)
noncomputable def kOr (H:Hyp G N C d) {l:List E} (sc:Sc) (Γ:Gam) (x:PySem.Expr) (rl:∀ m,Ck (SimLs G C d sc Γ l m)):Ck (SimET G C d sc Γ (.or l) x) :=
 zpc x fun o m p=>wq .Or o ((rl m).bind fun g=>.yes ⟨rfl,rfl,zn3 g.1,zj8 g.1⟩)
noncomputable def zw6 (H:Hyp G N C d) {o:Bop}{a:E}{b:E} (sc:Sc) (Γ:Gam) (x:PySem.Expr) (ra:∀ y,Ck (SimET G C d sc Γ a y)) (rb:∀ y,Ck (SimET G C d sc Γ b y)):Ck (SimET G C d sc Γ (.bin o a b) x) :=
 zwu x fun y q z p=>wq (zq0 o) q ((ra y).bind fun g1=>(rb z).bind fun g2=>.yes (ju rfl rfl rfl (znj H.O g1.e g2.e)))
noncomputable def zwo (H:Hyp G N C d) {a:E}{o:Cop}{b:E} (sc:Sc) (Γ:Gam) (x:PySem.Expr) (ra:∀ y,Ck (SimET G C d sc Γ a y)) (rb:∀ y,Ck (SimET G C d sc Γ b y)):Ck (SimET G C d sc Γ (.cmp a o b) x) :=
 zqi x fun y qs zs p=>w1 qs fun q=>w1 zs fun z=>wq (jj o) q ((ra y).bind fun g1=>(rb z).bind fun g2=>wb (!behindInMarks (jj o) z) fun h=>.yes ⟨rfl,rfl,znf (Bool.not_eq_true' _ ▸ h) g1.e g2.e,zke (Bool.not_eq_true' _ ▸ h) g1.e g2.e⟩)
noncomputable def zsl (H:Hyp G N C d) {a:E}{o:Cop}{b:E}{o2:Cop}{c:E} (sc:Sc) (Γ:Gam) (x:PySem.Expr) (ra:∀ y,Ck (SimET G C d sc Γ a y)) (rb:∀ y,Ck (SimET G C d sc Γ b y)) (rc:∀ y,Ck (SimET G C d sc Γ c y)):Ck (SimET G C d sc Γ (.cmp2 a o b o2 c) x) :=
 zqi x fun y qs zs p=>w2 qs fun q r=>w2 zs fun z u=>wq (jj o) q (wq (jj o2) r ((ra y).bind fun g1=>(rb z).bind fun g2=>(rc u).bind fun g3 =>
   wb (!behindInMarks (jj o2) u) fun h=>.yes ⟨rfl,rfl,zh7 (Bool.not_eq_true' _ ▸ h) g1.e g2.e g3.e,zf0 (Bool.not_eq_true' _ ▸ h) g1.e g2.e g3.e⟩))
noncomputable def zxb (H:Hyp G N C d) {n:Bool}{a:E}{v:V} (sc:Sc) (Γ:Gam) (x:PySem.Expr) (ra:∀ y,Ck (SimET G C d sc Γ a y)):Ck (SimET G C d sc Γ (.isC n a v) x) :=
 zqi x fun y qs zs p=>w1 qs fun q=>w1 zs fun z=>(ra y).bind fun g1=>wb (tt q n) fun h2=>(match v with
   | .none=>wK .none z fun k p=>.yes ⟨rfl,rfl,zl2 h2 g1.e,zi2 h2 g1.e⟩
   | _=>.no)
noncomputable def zxd (H:Hyp G N C d) {l:List E} (sc:Sc) (Γ:Gam) (x:PySem.Expr) (rl:∀ m,Ck (SimLs G C d sc Γ l m)):Ck (SimET G C d sc Γ (.tup l) x) :=
 zqm x fun m k p=>(rl m).bind fun g=>.yes (ju rfl rfl rfl (zmx g.2.1))
noncomputable def zwy (H:Hyp G N C d) {l:List E} (sc:Sc) (Γ:Gam) (x:PySem.Expr) (rl:∀ m,Ck (SimLs G C d sc Γ l m)):Ck (SimET G C d sc Γ (.lst l) x) :=
 zo2 x fun m p=>(rl m).bind fun g=>.yes (ju rfl rfl rfl (zm7 g.2.1))
noncomputable def zrv (H:Hyp G N C d) {k0:Nat}{l:List E} (sc:Sc) (Γ:Gam) (x:PySem.Expr) (rl:∀ m,Ck (SimLs G C d sc Γ l m)):Ck (SimET G C d sc Γ (.lstM k0 l) x) :=
 zo2 x fun m p=>(rl m).bind fun g=>.yes (ju rfl rfl rfl (zko H.O g.2.1))
noncomputable def zwz (H:Hyp G N C d) {a:E}{b:E} (sc:Sc) (Γ:Gam) (x:PySem.Expr) (ra:∀ y,Ck (SimET G C d sc Γ a y)) (rb:∀ y,Ck (SimET G C d sc Γ b y)):Ck (SimET G C d sc Γ (.sub a b) x) :=
 zmb x fun y z p=>(ra y).bind fun g1=>(rb z).bind fun g2=>.yes (ju rfl rfl rfl (zl3 g2.2.1 g1.e g2.e))
noncomputable def zqr (H:Hyp G N C d) {a:E}{lo:Option E}{hi:Option E} (sc:Sc) (Γ:Gam) (x:PySem.Expr) (ra:∀ y,Ck (SimET G C d sc Γ a y)) (rlo:∀ m,Ck (zdg G C d sc Γ lo m)) (rhi:∀ m,Ck (zdg G C d sc Γ hi m)):Ck (SimET G C d sc Γ (.slice a lo hi) x) :=
 zmb x fun y z p=>(ra y).bind fun g1=>zpr z fun l u st ps=>wn st ((rlo l).bind fun g2=>(rhi u).bind fun g3=>.yes (ju rfl rfl rfl (zf7 g1.e g2 g3)))
noncomputable def zth (H:Hyp G N C d) {a:E}{i:Nat} (sc:Sc) (Γ:Gam) (x:PySem.Expr) (ra:∀ y,Ck (SimET G C d sc Γ a y)):Ck (SimET G C d sc Γ (.attr a i) x) :=
 zis x fun y n p=>wq (N.attr i) n (wb (decide (i < 13)) fun h2=>wb (k4 y) fun h3=>(ra y).bind fun g=>.yes (zni H h2 h3 g))
noncomputable def zvc (H:Hyp G N C d) {f:Nat}{l:List E} (sc:Sc) (Γ:Gam) (x:PySem.Expr) (rl:∀ m,Ck (SimLs G C d sc Γ l m)):Ck (SimET G C d sc Γ (.call f l) x) :=
 bt x (N.fn f) fun np m p=>wb (k8 sc (N.fn f)) fun h2=>wb (!(N.fn f == Str.empty)) fun h3=>(rl m).bind fun g=>wk (zpj H f) fun hq=>.yes (ju rfl rfl rfl (zkb H.O hq H.hfn (ze1 h3) h2 g.2.2.1 g.2.2.2 g.2.1))
noncomputable def zs9 (H:Hyp G N C d) {a:E}{k:Nat}{l:List E} (sc:Sc) (Γ:Gam) (x:PySem.Expr) (ra:∀ y,Ck (SimET G C d sc Γ a y)) (rl:∀ m,Ck (SimLs G C d sc Γ l m)):Ck (SimET G C d sc Γ (.meth a k l) x) :=
 zjc x (N.meth k) fun y ap m p q1 q2 q3=>(ra y).bind fun g=>(rl m).bind fun g1=>wb d.q fun hq=>.yes (ju rfl rfl rfl (zln H.O (H.CO hq) H.hcl H.hme q1 q2 q3 g1.2.2.1 g1.2.2.2 g.e g1.2.1))
noncomputable def zxa (H:Hyp G N C d) {c:Nat}{l:List E} (sc:Sc) (Γ:Gam) (x:PySem.Expr) (rl:∀ m,Ck (SimLs G C d sc Γ l m)):Ck (SimET G C d sc Γ (.new c l) x) :=
 bt x (N.cls c) fun np m p=>wb (k8 sc (N.cls c)) fun h2=>(rl m).bind fun g=>wb d.q fun hq=>.yes (ju rfl rfl rfl (zm6 H.O (H.CO hq) H.hne h2 g.2.2.1 g.2.2.2 g.2.1))
noncomputable def zn8 (H:Hyp G N C d) {a:E}{ks:List Kind} (sc:Sc) (Γ:Gam) (x:PySem.Expr) (ra:∀ y,Ck (SimET G C d sc Γ a y)):Ck (SimET G C d sc Γ (.isinst a ks) x) :=
 bt x "isinstance" fun np m p=>wb (k8 sc "isinstance") fun h2=>w2 m fun y z=>(ra y).bind fun g=>zxe H sc Γ ks np y z p g h2
noncomputable def zug (H:Hyp G N C d) {q:Prim}{l:List E} (sc:Sc) (Γ:Gam) (x:PySem.Expr) (rl:∀ m,Ck (SimLs G C d sc Γ l m)):Ck (SimET G C d sc Γ (.prim q l) x) :=
 bt x (vr q) fun np m p=>wb d.q fun hq=>wb (k8 sc (vr q)) fun h2=>(rl m).bind fun g=>.yes (ju rfl rfl rfl (zgd hq H.O h2 g.2.2.1 g.2.2.2 g.2.1))
noncomputable def zqv (H:Hyp G N C d) {k0:Nat}{a:E} (sc:Sc) (Γ:Gam) (x:PySem.Expr) (ra:∀ y,Ck (SimET G C d sc Γ a y)):Ck (SimET G C d sc Γ (.listM k0 a) x) :=
 bt x "list" fun np m p=>wb (k8 sc "list") fun h2=>w1 m fun y=>(ra y).bind fun g=>.yes (ju rfl rfl rfl (ze4 H.O h2 g.1 g.e))
noncomputable def zpv (H:Hyp G N C d) {k0:Nat}{a:E} (sc:Sc) (Γ:Gam) (x:PySem.Expr) (ra:∀ y,Ck (SimET G C d sc Γ a y)):Ck (SimET G C d sc Γ (.dictC k0 a) x) :=
 bt x "dict" fun np m p=>wb (k8 sc "dict") fun h2=>w1 m fun y=>(ra y).bind fun g=>.yes (ju rfl rfl rfl (zf2 H.O h2 g.1 g.e))
noncomputable def kBm (H:Hyp G N C d) {b:Bm}{a:E}{l:List E} (sc:Sc) (Γ:Gam) (x:PySem.Expr) (ra:∀ y,Ck (SimET G C d sc Γ a y)) (rl:∀ m,Ck (SimLs G C d sc Γ l m)):Ck (SimET G C d sc Γ (.bm b a l) x) :=
 zjc x (zcf b) fun y ap m p q1 q2 q3=>wb (zdz b) fun h2=>(ra y).bind fun g=>(rl m).bind fun g1=>.yes (ju rfl rfl rfl (zpm H.O h2 q1 q2 q3 g1.2.2.1 g1.2.2.2 g.e g1.2.1))
noncomputable def zrm (H:Hyp G N C d) {k0:Option Nat}{slot:Nat}{range:Bool}{it:E}{cond:Option E}{elt:E} (sc:Sc) (Γ:Gam) (x:PySem.Expr) (rit:∀ y,Ck (SimET G C d sc Γ it y)) (rcond:∀ sc Γ m,Ck (CondSim G C d sc Γ cond m)) (re:∀ sc Γ x,Ck (SimET G C d sc Γ elt x)):Ck (SimET G C d sc Γ (.comp k0 slot range it cond elt) x) :=
 zh9 (slot:=slot) (range:=range) x rit rcond re fun e i y px ifs scope pos K=>wb d.q fun hq=>.yes (zn6 hq H K)
mutual
noncomputable def ckE (H:Hyp G N C d):(e:E)→(sc:Sc)→(Γ:Gam)→(x:PySem.Expr)→Ck (SimET G C d sc Γ e x)
 | .none,sc,Γ,x=>wK .none x fun k p=>.yes (ju rfl rfl rfl zkk)
 | .bool b,sc,Γ,x=>wK (.bool b) x fun k p=>.yes (ju rfl rfl rfl zkz)
 | .int i,sc,Γ,x=>wK (.int i) x fun k p=>.yes (ju rfl rfl rfl zna)
 | .str l,sc,Γ,x=>wK (.str (qh l)) x fun k p=>.yes (ju rfl rfl rfl zmr)
 | .loc i,sc,Γ,x=>zw7 H sc Γ x
 | .gint g i,sc,Γ,x=>zrt H sc Γ x
 | .gstr g i,sc,Γ,x=>zuw H sc Γ x
 | .neg a,sc,Γ,x=>zw2 H sc Γ x (ckE H a sc Γ)
 | .not a,sc,Γ,x=>zw4 H sc Γ x (ckE H a sc Γ)
 | .and l,sc,Γ,x=>zwr H sc Γ x (fm H l sc Γ)
 | .or l,sc,Γ,x=>kOr H sc Γ x (fm H l sc Γ)
 | .bin o a b,sc,Γ,x=>zw6 H sc Γ x (ckE H a sc Γ) (ckE H b sc Γ)
 | .cmp a o b,sc,Γ,x=>zwo H sc Γ x (ckE H a sc Γ) (ckE H b sc Γ)
 | .cmp2 a o b o2 c,sc,Γ,x=>zsl H sc Γ x (ckE H a sc Γ) (ckE H b sc Γ) (ckE H c sc Γ)
 | .isC n a v,sc,Γ,x=>zxb H sc Γ x (ckE H a sc Γ)
 | .tup l,sc,Γ,x=>zxd H sc Γ x (fm H l sc Γ)
 | .lst l,sc,Γ,x=>zwy H sc Γ x (fm H l sc Γ)
 | .lstM _ l,sc,Γ,x=>zrv H sc Γ x (fm H l sc Γ)
 | .dictM _ ks l,sc,Γ,x=>zwg x fun m m' p=>w0 m (w0 m' (match ks,l with
   | [],[]=>.yes (ju rfl rfl rfl (zgz H.O))
   | _,_=>.no))
 | .sub a b,sc,Γ,x=>zwz H sc Γ x (ckE H a sc Γ) (ckE H b sc Γ)
 | .slice a lo hi,sc,Γ,x=>zqr H sc Γ x (ckE H a sc Γ) (ckO H lo sc Γ) (ckO H hi sc Γ)
 | .attr a i,sc,Γ,x=>zth H sc Γ x (ckE H a sc Γ)
 | .call f l,sc,Γ,x=>zvc H sc Γ x (fm H l sc Γ)
 | .meth a k l,sc,Γ,x=>zs9 H sc Γ x (ckE H a sc Γ) (fm H l sc Γ)
 | .new c l,sc,Γ,x=>zxa H sc Γ x (fm H l sc Γ)
 | .isinst a ks,sc,Γ,x=>zn8 H sc Γ x (ckE H a sc Γ)
 | .prim q l,sc,Γ,x=>zug H sc Γ x (fm H l sc Γ)
 | .listM _ a,sc,Γ,x=>zqv H sc Γ x (ckE H a sc Γ)
 | .dictC _ a,sc,Γ,x=>zpv H sc Γ x (ckE H a sc Γ)
 | .bm b a l,sc,Γ,x=>kBm H sc Γ x (ckE H a sc Γ) (fm H l sc Γ)
 | .comp _ slot range it cond elt,sc,Γ,x=>zrm H sc Γ x (ckE H it sc Γ) (zub H cond) (ckE H elt)
noncomputable def zub (H:Hyp G N C d):(e:Option E)→(sc:Sc)→(Γ:Gam)→(m:List PySem.Expr)→Ck (CondSim G C d sc Γ e m)
 | none,sc,Γ,m=>w0 m (.yes .none)
 | some c,sc,Γ,m=>w1 m fun x=>(ckE H c sc Γ x).bind fun g=>.yes (.some g.t)
noncomputable def ckO (H:Hyp G N C d):(e:Option E)→(sc:Sc)→(Γ:Gam)→(m:Option PySem.Expr)→Ck (zdg G C d sc Γ e m)
 | none,sc,Γ,m=>wn m (.yes zft)
 | some c,sc,Γ,m=>ws m fun x=>(ckE H c sc Γ x).bind fun g=>.yes (zgq g.e)
noncomputable def fm (H:Hyp G N C d):(l:List E)→(sc:Sc)→(Γ:Gam)→(m:List PySem.Expr)→Ck (SimLs G C d sc Γ l m)
 | [],sc,Γ,m=>w0 m (.yes ⟨.nil,uc,rfl,rfl⟩)
 | e :: l,sc,Γ,m=>wc m fun x r=>(ckE H e sc Γ x).bind fun g1=>(fm H l sc Γ r).bind fun g2=>.yes (zom g1 g2)
end
end
end Mine
end
section
namespace Mine
open PySem PySem.W PyProof.Rows
noncomputable def tw (Γ:Gam):Bool:=decide ((Γ.filterMap id).Nodup)
theorem sr:∀ (Γ:Gam) (i:Nat) (y:PySem.Str),Γ[i]?=some (some y)→y∈Γ.filterMap id
 | [],i,y,h=>by simp at h
 | a :: Γ,0,y,h=>by simp at h; subst h; simp
 | a :: Γ,i + 1,y,h=>by
  simp only [List.getElem?_cons_succ] at h
  have:=sr Γ i y h
  cases a with
  | none=>simpa using this
  | some z=>simp only [List.filterMap_cons,id]; exact List.mem_cons_of_mem _ this
theorem oz:∀ (Γ:Gam),tw Γ=true→jy Γ
 | [],h=>by intro i j y h; simp at h
 | a :: Γ,h=>by
  have hn:(List.filterMap id (a :: Γ)).Nodup:=by simpa [tw] using h
  have h':jy Γ:=oz Γ (by
   cases a with
   | none=>simpa [tw] using hn
   | some z=>simp only [List.filterMap_cons,id] at hn; simpa [tw] using (List.nodup_cons.1 hn).2)
  intro i j y hi hj
  match i,j with
  | 0,0=>rfl
  | i + 1,j + 1=>
   simp only [List.getElem?_cons_succ] at hi hj
   exact congrArg Nat.succ (h' i j y hi hj)
  | 0,j + 1 =>
   simp at hi; subst hi
   simp only [List.getElem?_cons_succ] at hj
   simp only [List.filterMap_cons,id] at hn
   exact ((List.nodup_cons.1 hn).1 (sr Γ j y hj)).elim
  | i + 1,0 =>
   simp at hj; subst hj
   simp only [List.getElem?_cons_succ] at hi
   simp only [List.filterMap_cons,id] at hn
   exact ((List.nodup_cons.1 hn).1 (sr Γ i y hi)).elim
section
variable {P:Stmt→Type} [∀ x,No (P x)]
@[elab_as_elim] noncomputable def zs7 (x:Stmt) (f:∀ y p,P (.Expr y p)):P x:=wb (Nat.beq x.ctorIdx 24) fun h=>PySem.Stmt.Expr.elim x (Nat.eq_of_beq_eq_true h) f
@[elab_as_elim] noncomputable def zmp (x:Stmt) (f:∀ t e p,P (.Assign t e p)):P x:=wb (Nat.beq x.ctorIdx 5) fun h=>PySem.Stmt.Assign.elim x (Nat.eq_of_beq_eq_true h) f
@[elab_as_elim] noncomputable def vIf (x:Stmt) (f:∀ c a b p,P (.If c a b p)):P x:=wb (Nat.beq x.ctorIdx 12) fun h=>PySem.Stmt.If.elim x (Nat.eq_of_beq_eq_true h) f
@[elab_as_elim] noncomputable def zwt (x:Stmt) (f:∀ t i b o p,P (.For t i b o p)):P x:=wb (Nat.beq x.ctorIdx 9) fun h=>PySem.Stmt.For.elim x (Nat.eq_of_beq_eq_true h) f
@[elab_as_elim] noncomputable def zps (x:Stmt) (f:∀ c b o p,P (.While c b o p)):P x:=wb (Nat.beq x.ctorIdx 11) fun h=>PySem.Stmt.While.elim x (Nat.eq_of_beq_eq_true h) f
@[elab_as_elim] noncomputable def zwq (x:Stmt) (f:∀ e p,P (.Return e p)):P x:=wb (Nat.beq x.ctorIdx 3) fun h=>PySem.Stmt.Return.elim x (Nat.eq_of_beq_eq_true h) f
@[elab_as_elim] noncomputable def zpu (x:Stmt) (f:∀ t e p,P (.Assign [t] e p)):P x:=zmp x fun ts e p=>w1 ts fun t=>f t e p
end
section
variable {G:Gd}{N:Names}{C:Calls}{d:Dp}{n:Nat}{sc:Sc}{Γ:Gam}
noncomputable def ckT (H:Hyp G N C d) (t:T) (x:PySem.Expr):Ck (TgtOk G C d sc Γ t x):=match t with
 | .loc i=>da x fun y p=>wb (Γ[i]? == some (some y)) fun h1=>wb (vz sc y) fun h2=>.yes (.loc (eq_of_beq h1) h2)
 | .item a b=>zmb x fun y z p=>wk (ckE H a sc Γ y) fun g1=>wk (ckE H b sc Γ z) fun g2=>.yes (.item g1.e g2.e)
noncomputable def zrf (H:Hyp G N C d):(l:List T)→(m:List PySem.Expr)→Ck (TgtsOk G C d sc Γ l m)
 | [],m=>w0 m (.yes .nil)
 | t :: l,m=>wc m fun x r=>wk (ckT H t x) fun h1=>wk (zrf H l r) fun h2=>.yes (.cons h1 h2)
noncomputable def zv9 (H:Hyp G N C d) (t:T ⊕ List T) (x:PySem.Expr):Ck (ForTgt G C d sc Γ t x):=match t with
 | .inl t=>wk (ckT H t x) fun h=>.yes (.one h)
 | .inr ts=>zqm x fun m k p=>wk (zrf H ts m) fun h=>.yes (.many h)
theorem zqa (hq:d.q=true) (H:Hyp G N C d) (gi:jy Γ) {i:Nat}{z:PySem.Str}{zp pz:Pos}{M:Option Nat}{slot:Nat}{range:Bool}{it:E}{cond:Option E}{elt:E}{e j:PySem.Expr}{y:PySem.Str}{px pos:Pos}{ifs:List PySem.Expr}{scope:Scope}
  (hi:(Γ[i]? == some (some z))=true) (hk:vz sc z=true) (K:CompAst G C d sc Γ slot range it cond elt e j y ifs scope) :
  bo G C d sc Γ n (.assign i (.comp M slot range it cond elt)) (.Assign [.Name z zp] (.ListComp e [⟨.Name y px,j,ifs,0⟩] scope pos) pz):=by
 obtain ⟨j,h1,h2⟩:=K.it
 exact m5 hq H.O gi (eq_of_beq hi) hk (p8 K.ok) K.ns h1 h2 K.co K.el
theorem zfj (H:Hyp G N C d) {a b:E}{i:Nat}{y z:PySem.Expr}{ap p:Pos} (h2:decide (i < 13)=true) (g1:SimET G C d sc Γ a y) (g2:SimET G C d sc Γ b z) :
  bo G C d sc Γ n (.setattr a i b) (.Assign [.Attribute y (N.attr i) ap] z p):=by
 rw [show N.attr i=G.an i from congrFun H.O.attr i]
 exact ah H.O H.hcl (of_decide_eq_true h2) g1.e g2.e
theorem ztn (hq:d.q=true) (H:Hyp G N C d) (gi:jy Γ) {ts:T ⊕ List T}{range:Bool}{it:E}{body:List S}{y i:PySem.Expr}{m:List Stmt}{p:Pos} (h1:ForTgt G C d sc Γ ts y) (h2:wx i=true) (h3:ItOk' G C d sc Γ range it i) (h:mv G C d sc Γ n body m) :
  bo G C d sc Γ n (.for_ ts range it body) (.For y i m [] p):=by
 obtain ⟨j,h4,h5⟩:=h3
 exact zkj hq H.O gi h1 h2 h4 h5 h
theorem zb9 {c:Nat}{x:Stmt}:bo G C d sc Γ n (.raise c) x:=by
 intro t st s env loc fl loc' st' A hA hT hsc F R e
 cases e
mutual
noncomputable def ckS (H:Hyp G N C d) (gi:jy Γ):(s:S)→(x:Stmt)→Ck (bo G C d sc Γ n s x)
 | .expr a,x=>zs7 x fun y p=>wb (w4 y) fun h1=>wk (ckE H a sc Γ y) fun h=>.yes (zg0 h1 h.e)
 | .assign i a,x=>zpu x fun t z p=>da t fun y yp=>wb (Γ[i]? == some (some y)) fun h1=>wb (vz sc y) fun h2=>(match a with
   | .comp _ slot range it cond elt=>zh9 (slot:=slot) (range:=range) z (ckE H it sc Γ) (zub H cond) (ckE H elt) fun e i y px ifs scope pos K=>wb d.q fun hq=>.yes (zqa hq H gi h1 h2 K)
   | a=>wb (w4 z) fun h3=>wk (ckE H a sc Γ z) fun h=>.yes (za1 gi (eq_of_beq h1) h2 h3 h.e))
 | .setattr a i b,x=>zpu x fun t z p=>zis t fun y nm ap=>wq (N.attr i) nm (wb (decide (i < 13)) fun h2=>wk (ckE H a sc Γ y) fun g1=>wk (ckE H b sc Γ z) fun g2=>.yes (zfj H h2 g1 g2))
 | .setitem a b c,x=>zpu x fun t z p=>zmb t fun y u ap=>wb (w4 z) fun h1=>wk (ckE H a sc Γ y) fun g1=>wk (ckE H b sc Γ u) fun g2=>wk (ckE H c sc Γ z) fun g3=>.yes (ao h1 g1.e g2.e g3.e)
 | .unpack ts a,x=>.no
 | .ite c b1 b2,x=>vIf x fun y m1 m2 p=>wk (ckE H c sc Γ y) fun g=>wk (ckB H gi b1 m1) fun g1=>wk (ckB H gi b2 m2) fun g2=>.yes (zir g.t g1 g2)
 | .for_ ts range it body,x=>zwt x fun y i m o p=>w0 o (wk (zv9 H ts y) fun h1=>wb (wx i) fun h2=>wk (ztl range i (ckE H it sc Γ)) fun h3=>wk (ckB H gi body m) fun h=>wb d.q fun hq=>.yes (ztn hq H gi h1 h2 h3 h))
 | .while_ c body,x=>zps x fun y m o p=>w0 o (wk (ckE H c sc Γ y) fun g=>wk (ckB H gi body m) fun h=>.yes (zct g.t h))
 | .ret a,x=>zwq x fun y p=>(match a with
   | none=>wn y (.yes ze3)
   | some a=>ws y fun z=>wk (ckE H a sc Γ z) fun g=>.yes (zjp g.e))
 | .raise _,x=>.yes zb9
noncomputable def ckB (H:Hyp G N C d) (gi:jy Γ):(l:List S)→(m:List Stmt)→Ck (mv G C d sc Γ n l m)
 | [],m=>w0 m (.yes zlv)
 | s :: l,m=>wc m fun x r=>wk (ckS H gi s x) fun g1=>wk (ckB H gi l r) fun g2=>.yes (zgy g1 g2)
end
end
end Mine
end
section
namespace Mine
open PySem PySem.W PyProof.Rows
theorem cg:∀ (names:List PySem.Str) (vals:List Value),vals.length=names.length→∀ x∈names,((names.zip vals).lookup x).isSome=true
 | [],vals,h,x,hx=>by simp at hx
 | a :: names,[],h,x,hx=>by simp at h
 | a :: names,v :: vals,h,x,hx=>by
  simp only [List.zip_cons_cons,List.lookup_cons]
  split
  ·rfl
  ·rename_i e
   refine cg names vals (by simpa using h) x ?_
   rcases List.mem_cons.1 hx with rfl | hx
   ·simp at e
   ·exact hx
theorem i7 {α β:Type}{f g:α→Option β}:∀ {l:List α},(∀ x∈l,f x=g x)→l.filterMap f=l.filterMap g
 | [],_=>rfl
 | x :: l,h=>by
  have ih:l.filterMap f=l.filterMap g:=i7 (l:=l) (fun y hy=>h y (by simp [hy]))
  simp only [List.filterMap_cons,h x (by simp),ih]
theorem zjw:∀ (names:List PySem.Str) (vals:List Value),vals.length=names.length→names.Nodup→names.filterMap (fun n=>((names.zip vals).lookup n).map (n,·))=names.zip vals
 | [],vals,h,nd=>by simp
 | a :: names,[],h,nd=>by simp at h
 | a :: names,v :: vals,h,nd=>by
  obtain ⟨h1,h2⟩:=List.nodup_cons.1 nd
  have ih:=zjw names vals (by simpa using h) h2
  simp only [List.zip_cons_cons,List.filterMap_cons,List.lookup_cons,beq_self_eq_true,Option.map_some]
  congr 1
  refine Eq.trans (i7 fun x hx=>?_) ih
  have:(x == a)=false:=by
   simp only [beq_eq_false_iff_ne]; rintro rfl; exact h1 hx
  simp only [this]
noncomputable def mf (fd:FuncData) (names:List PySem.Str):Bool :=
 fd.params.posonlyargs.isEmpty && fd.params.args.map (·.arg) == names && fd.params.kwonlyargs.isEmpty && fd.params.vararg.isNone && fd.params.kwarg.isNone && (match fd.defaults with | .none=>true | _=>false)
theorem zn4 {fd:FuncData} (vals:List Value) (h1:fd.params.posonlyargs=[]) (h3:fd.params.kwonlyargs=[]) (h4:fd.params.vararg=none) (h5:fd.params.kwarg=none) (h6:fd.defaults=.none)
  (hl:vals.length=(fd.params.args.map (·.arg)).length) (e1:((fd.params.args.map (·.arg)).filter fun n=>(((fd.params.args.map (·.arg)).zip vals).lookup n).isNone)=[])
  (e2:(fd.params.args.map (·.arg)).filterMap (fun n=>(((fd.params.args.map (·.arg)).zip vals).lookup n).map (n,·))=(fd.params.args.map (·.arg)).zip vals):bindArgs fd ⟨vals,[]⟩=pure ((fd.params.args.map (·.arg)).zip vals):=by
 obtain ⟨nm,q,⟨po,pa,va,ko,kd,kw,df⟩,body,sc,g,cl,ds,kds,doc,pm,an,cd,ct,bb⟩:=fd
 cases h1; cases h3; cases h4; cases h5; cases h6
 have hc1:¬ (decide (vals.length > (pa.map (·.arg)).length) && true)=true:=by
  have:¬ (vals.length > (pa.map (·.arg)).length):=by
   have hl:vals.length=(pa.map (·.arg)).length:=hl
   omega
  rw [decide_eq_false this]; exact Bool.noConfusion
 have hc2:¬ (!((pa.map (·.arg)).filter fun n=>(((pa.map (·.arg)).zip vals).lookup n).isNone).isEmpty)=true:=by
  have e1:((pa.map (·.arg)).filter fun n=>(((pa.map (·.arg)).zip vals).lookup n).isNone)=[]:=e1
  rw [e1]; exact Bool.noConfusion
 have ht:List.take (pa.map (·.arg)).length (pa.map (·.arg))=pa.map (·.arg):=List.take_length
 have hd:List.drop ((Option.getD (none:Option (Array Value)) #[]).toList.length - (pa.map (·.arg)).length) (Option.getD (none:Option (Array Value)) #[]).toList=[]:=List.drop_nil
 refine Eq.trans (if_neg hc1) (Eq.trans (if_neg ?_) ?_)
 ·intro h
  have h:(!((List.take ((pa.map (·.arg)).length - (List.drop ((Option.getD (none:Option (Array Value)) #[]).toList.length - (pa.map (·.arg)).length) (Option.getD (none:Option (Array Value)) #[]).toList).length) (pa.map (·.arg))).filter fun n=>(((pa.map (·.arg)).zip vals).lookup n).isNone).isEmpty)=true:=h
  rw [hd] at h
  have h:(!((List.take (pa.map (·.arg)).length (pa.map (·.arg))).filter fun n=>(((pa.map (·.arg)).zip vals).lookup n).isNone).isEmpty)=true:=h
  rw [ht] at h
  exact hc2 h
 ·have e2:(pa.map (·.arg)).filterMap (fun n=>(((pa.map (·.arg)).zip vals).lookup n).map (n,·))=(pa.map (·.arg)).zip vals:=e2
  clear hl e1 hc1 hc2
  simp only [List.map_nil,List.nil_append,hd,List.zip_nil_right,List.append_nil]
  exact congrArg (fun z=>(pure z:Sem (List (PySem.Str×Value)))) e2
theorem zcv {fd:FuncData}{names:List PySem.Str} (h:mf fd names=true) (nd:names.Nodup) (vals:List Value) (hl:vals.length=names.length):bindArgs fd ⟨vals,[]⟩=pure (names.zip vals):=by
 obtain ⟨h,h6⟩:=f7 h
 obtain ⟨h,h5⟩:=f7 h
 obtain ⟨h,h4⟩:=f7 h
 obtain ⟨h,h3⟩:=f7 h
 obtain ⟨h1,h2⟩:=f7 h
 have h2:fd.params.args.map (·.arg)=names:=eq_of_beq h2
 subst h2
 refine zn4 vals (List.isEmpty_iff.1 h1) (List.isEmpty_iff.1 h3) (Option.isNone_iff_eq_none.1 h4) (Option.isNone_iff_eq_none.1 h5) ?_ hl ?_ (zjw _ vals hl nd)
 ·revert h6
  cases fd.defaults <;> first | exact fun _=>rfl | exact fun h=>Bool.noConfusion h
 ·rw [List.filter_eq_nil_iff]
  intro x hx e
  have:=cg _ vals hl x hx
  rw [Option.isNone_iff_eq_none.1 e] at this; exact qg this
set_option genCtorIdx false in
structure Stat (G:Gd) (N:Names):Prop where
 O:G.Ok N
 hcl:∀ c Ca,G.ca c=some Ca→ClsOk G Ca
 hfn:∀ f a,G.fa f=some a→FnOk G N f a
 hme:∀ c k f Ca,G.P.meths c k=some f→G.ca c=some Ca→∃ a,G.fa f=some a∧MethOk G Ca (N.meth k) a
 hne:∀ c k f,G.P.inits c=some (k,f)→∃ Ca fi,G.ca c=some Ca∧G.fa f=some fi∧NewOk G N c Ca fi
 xw:∀ y c,N.xs.contains (y,c)=true→c≠0∧zso G y c
 xk:∀ c k,(G.P.excBase c).contains c=true→(G.P.excBase c).contains k=true→kitOne G.K (.ref c) (sd k)=some true∧(k≠0→exmOne G.K (.ref c) (.ref k)=some true)
 xm:∀ k c f,N.xm k=true→G.P.meths c k=some f→N.xf f=true
 xi:∀ c k,(G.P.excBase c).contains c=true→(k=0∨∃ y,N.xs.contains (y,k)=true)→zml G.K c=true∧kitOne G.K (.ref c) (sd k)=some ((G.P.excBase c).contains k)
noncomputable def zlj (K:Frag) (N:Names) (fn:Fn) (a:Addr):Bool :=
 match K.lookup a with
 | some o=>(match o.data with
  | .func fd=>codeIn K fd.code fd.qualname && fd.closure.isEmpty && fd.globals == mainGlobals && fd.builtins == builtinsNs && fd.scope.kind == .function && !fd.scope.isCoroutine && !fd.scope.isGenerator &&
   mf fd (fn.names.take fn.np) && decide (fn.np≤fn.names.length) && (fn.names.take fn.np).all (fun x=>vz fd.scope.names x && !(x == Str.empty)) && decide (fn.names.take fn.np).Nodup && tw (zcz fn) && (match fd.body with | .stmts _=>true | _=>false)
  | _=>false)
 | none=>false
noncomputable def ab (K:Frag) (a:Addr):Option (Sc×List Stmt):=(K.lookup a).bind fun o=>match o.data with
 | .func fd=>(match fd.body with
  | .stmts body=>some (fd.scope.names,body)
  | _=>none)
 | _=>none
noncomputable def zoh {G:Gd}{N:Names}{C:Calls}{d:Dp} (n:Nat) (H:Hyp G N C d) (fn:Fn) (p:Sc×List Stmt):Bool:=(wb (tw (zcz fn)) fun hg=>ckB (sc:=p.1) (n:=n) H (oz (zcz fn) hg) fn.body p.2).isYes
noncomputable def so (K:Frag) {G:Gd}{N:Names}{C:Calls}{d:Dp} (n:Nat) (H:Hyp G N C d) (fn:Fn) (a:Addr):Bool:=(ab K a).any (zoh n H fn)
theorem zl6 {G:Gd}{N:Names}{fn:Fn}{a:Addr} (h:zlj G.K N fn a=true):∃ fd body,FnHd G fn a fd body∧ab G.K a=some (fd.scope.names,body):=by
 unfold zlj at h; split at h
 ·rename_i o ho
  split at h
  ·rename_i fd hd
   simp only [Bool.and_eq_true,List.isEmpty_iff,beq_iff_eq,Bool.not_eq_true',decide_eq_true_eq,List.all_eq_true,beq_eq_false_iff_ne] at h
   obtain ⟨⟨⟨⟨⟨⟨⟨⟨⟨⟨⟨⟨h1,h2⟩,h3⟩,h4⟩,h5⟩,h6⟩,h7⟩,h8⟩,h9⟩,h10⟩,h11⟩,h12⟩,h13⟩:=h
   cases hy:fd.body with
   | stmts body =>
    have e:ab G.K a=some (fd.scope.names,body):=by unfold ab; rw [ho]; show (match o.data with | .func fd=>_ | _=>none)=_; rw [hd]; show (match fd.body with | .stmts body=>_ | _=>none)=_; rw [hy]
    exact ⟨fd,body,⟨o,ho,hd,h1,hy,h2,h3,h4,h5,h6,h7,fun vals hv=>zcv h8 h11 vals (by rw [hv,List.length_take]; lia),h9,h10,h11⟩,e⟩
   | _=>rw [hy] at h13; exact qg h13
  ·exact qg h
 ·exact qg h
theorem Stat.hyp {G:Gd}{N:Names} (S:Stat G N) {C:Calls}{n:Nat} (CA:CallsA G N.xf N.qf C n):Hyp G N C ⟨n,true⟩:=⟨S.O,fun _=>CA.ok,S.hcl,S.hfn,S.hme,S.hne,S.xw,S.xk,S.xm,S.xi,fun _=>CA.x,CA.q⟩
theorem Stat.hypQ {G:Gd}{N:Names} (S:Stat G N) {C:Calls}{n:Nat} (CQ:dj G C n N.qf):Hyp G N C ⟨n,false⟩:=⟨S.O,nofun,S.hcl,S.hfn,S.hme,S.hne,S.xw,S.xk,S.xm,S.xi,nofun,CQ⟩
theorem ew {G:Gd}{N:Names}{q:Bool}{PX:Calls→Nat→Prop} (S:∀ C n,PX C n→Hyp G N C ⟨n,q⟩) {fn:Fn}{a:Addr} (h:zlj G.K N fn a=true) (hb:∀ C n (H:Hyp G N C ⟨n,q⟩),so G.K n H fn a=true):FnRec G q PX fn a:=by
 obtain ⟨fd,body,hd,e⟩:=zl6 h
 refine ⟨fd,body,hd,fun C n CA=>?_⟩
 have g:=hb C n (S C n CA)
 unfold so at g; rw [e] at g
 exact Ck.get g
end Mine
end
section
namespace Mine
theorem ft (y:Int) (h0:0≤y) (h:y < 18446744073709551616):intBits y≤64:=by
 unfold intBits
 split
 ·lia
 ·have h1:y.natAbs≠0:=by lia
  have:y.natAbs.log2 < 64:=(Nat.log2_lt h1).2 (by lia)
  lia
theorem zqh (x y:Int) (s:MS) (h0:0≤y) (h:y < 18446744073709551616):wa .mul (.int x) (.int y) s=.ok (.int (x * y)) s :=
 if_pos (by rw [o6,decide_eq_true (ft y h0 h),Bool.or_true,Bool.true_or])
theorem zqn (x y:Int) (s:MS) (h0:0≤x) (h:x < 18446744073709551616):wa .mul (.int x) (.int y) s=.ok (.int (x * y)) s :=
 if_pos (by rw [o6,decide_eq_true (ft x h0 h),Bool.true_or,Bool.true_or])
theorem zju (x y:List Nat) (s:MS) (h:x.length + y.length≤16777216):wa .add (.str x) (.str y) s=.ok (.str (x ++ y)) s:=if_pos h
theorem zhi {α β:Type} (a:α) (s:MS) (f:α→MS→Res β):(Res.ok a s).bind f=f a s:=rfl
theorem zqt (b:Bool) (s:MS):vn (.bool b) s=.ok b s:=rfl
theorem zij {i:Int}{n:Nat} (h0:0≤i) (h:i < n):idx i n=some i.toNat:=(if_pos h0).trans (if_pos h)
theorem zv1 (x:List Nat) (i:Int) (s:MS) (h0:0≤i) (h:i < x.length) (g:x.length≤16777216):getItem (.str x) (.int i) s=.ok (.str [x[i.toNat]'(by lia)]) s:=by
 refine (if_pos g).trans ?_
 rw [zij h0 h]
 show okV s ((x[i.toNat]?).map _)=_
 rw [List.getElem?_eq_getElem (by lia)]; rfl
theorem ux (s₀ s:MS) (range:Bool) (src:V) (slot:Nat) (elt:Loc→MS→Res V) (l:Loc) (f:V→V)
  (hs:stays s₀ s range src=true) :
  ∀ (xs acc:List V) ,(∀ x∈xs,elt (l.set slot (some x)) s=.ok (f x) s)→acc.length + xs.length≤zf →
   compLoop s₀ range src slot none elt l acc xs s=.ok (acc ++ xs.map f) s
 | [],acc,h,g=>by simp [v8,vh,hs]
 | x :: r,acc,h,g=>by
  have ih:=ux s₀ s range src slot elt l f hs r (acc ++ [f x]) (fun y hy=>h y (by simp [hy])) (by simp at g ⊢; omega)
  have hx:=h x (by simp)
  have g':acc.length < zf:=by simp at g; omega
  simp [v8,vh,hs,zhi,hx,g',ih]
theorem ww (s₀ s:MS) (range:Bool) (src:V) (slot:Nat) (c elt:Loc→MS→Res V) (l:Loc) (p:V→Bool) (f:V→V) (hs:stays s₀ s range src=true) :
  ∀ (xs acc:List V),(∀ x∈xs,c (l.set slot (some x)) s=.ok (.bool (p x)) s)→(∀ x∈xs,p x=true→elt (l.set slot (some x)) s=.ok (f x) s)→acc.length + xs.length≤zf →
   compLoop s₀ range src slot (some c) elt l acc xs s=.ok (acc ++ (xs.filter p).map f) s
 | [],acc,_,_,_=>by rw [List.filter_nil,List.map_nil,List.append_nil]; exact if_pos hs
 | x :: r,acc,h1,h2,g=>by
  have g1:acc.length < zf:=by rw [List.length_cons] at g; lia
  refine (if_pos hs).trans ?_
  show Res.bind (Res.bind (c (l.set slot (some x)) s) vn) _=_
  rw [h1 x (List.mem_cons_self ..)]
  show (if p x=true then Res.bind (elt (l.set slot (some x)) s) (fun v s=>if acc.length < zf then compLoop s₀ range src slot (some c) elt l (acc ++ [v]) r s else .stuck) else compLoop s₀ range src slot (some c) elt l acc r s)=_
  rw [List.filter_cons]
  cases hp:p x with
  | true =>
   rw [if_pos rfl,if_pos rfl,h2 x (List.mem_cons_self ..) hp]
   show (if acc.length < zf then _ else _)=_
   rw [if_pos g1,ww s₀ s range src slot c elt l p f hs r _ (fun y hy=>h1 y (List.mem_cons_of_mem _ hy)) (fun y hy=>h2 y (List.mem_cons_of_mem _ hy)) (by rw [List.length_append]; show acc.length + 1 + _≤_; rw [List.length_cons] at g; lia),List.append_assoc]
   rfl
  | false =>
   rw [if_neg Bool.false_ne_true,if_neg Bool.false_ne_true]
   exact ww s₀ s range src slot c elt l p f hs r acc (fun y hy=>h1 y (List.mem_cons_of_mem _ hy)) (fun y hy=>h2 y (List.mem_cons_of_mem _ hy)) (by rw [List.length_cons] at g; lia)
theorem j8 (s:MS) (n:Int) (h0:0≤n) (h:n≤16777216):z6 s true (.int n)=some ((List.range n.toNat).map fun (i:Nat)=>.int i):=if_pos ⟨Int.le_trans (by decide) h0,h⟩
noncomputable def OkR {α:Type} (r:Res α) (Q:α→MS→Prop):Prop:=match r with
 | .ok a s=>Q a s
 | _=>False
theorem zj1 {α:Type} (a:α) (s:MS) (Q:α→MS→Prop):OkR (.ok a s) Q=Q a s:=rfl
theorem b9 {α β:Type} (r:Res α) (f:α→MS→Res β) (Q:β→MS→Prop):OkR (r.bnd f) Q=OkR r (fun a s=>OkR (f a s) Q):=by
 cases r <;> rfl
theorem j5 {α β:Type} (r:Res α) (f:α→MS→Res β) (Q:β→MS→Prop):OkR (r.bind f) Q=OkR r (fun a s=>OkR (f a s) Q):=by
 cases r <;> rfl
theorem qr {α:Type}{r:Res α}{Q R:α→MS→Prop} (h:OkR r Q) (g:∀ a s,Q a s→R a s):OkR r R:=by
 cases r with
 | ok a s=>exact g a s h
 | _=>exact h.elim
theorem qz {α:Type}{r:Res α}{Q:α→MS→Prop} (h:OkR r Q):∃ a s,r=.ok a s∧Q a s:=by
 cases r with
 | ok a s=>exact ⟨a,s,rfl,h⟩
 | _=>exact h.elim
theorem cz {α:Type}{r:Res α}{a:α}{s:MS}{Q:α→MS→Prop} (h:r=.ok a s) (k:Q a s):OkR r Q:=by rw [h]; exact k
theorem qm {α:Type}{r:Res α}{a:α}{s:MS} (h:OkR r (fun b t=>b=a∧t=s)):r=.ok a s:=by
 cases r with
 | ok b t=>obtain ⟨rfl,rfl⟩:=h; rfl
 | _=>exact h.elim
noncomputable def flV:Fl→V
 | .ret v=>v
 | .next=>.none
theorem zl {P:Prog}{n f:Nat}{vs:List V}{s:MS}{fn:Fn}{Q:V→MS→Prop} (hf:P.fns f=some fn) (hl:vs.length=fn.np)
  (h:OkR (exs P (run P n) n fn.body (vs.map some ++ List.replicate (fn.names.length - fn.np) none) s) (fun p s=>Q (flV p.1) s)):OkR (run P (n + 1) f vs s) Q:=by
 simp only [run,hf,if_pos hl,j5]
 exact h
noncomputable def ix (P:Prog) (C:Calls) (n:Nat) (r:List S) (Q:Fl×Loc→MS→Prop) (p:Fl×Loc) (s:MS):Prop :=
 match p.1 with
 | .next=>OkR (exs P C n r p.2 s) Q
 | .ret v=>Q (.ret v,p.2) s
theorem vd (P:Prog) (C:Calls) (n:Nat) (r:List S) (Q:Fl×Loc→MS→Prop) (l:Loc) (s:MS):ix P C n r Q (.next,l) s=OkR (exs P C n r l s) Q:=rfl
theorem gm (P:Prog) (C:Calls) (n:Nat) (st:S) (r:List S) (l:Loc) (s:MS) (Q:Fl×Loc→MS→Prop) :
  OkR (exs P C n (st :: r) l s) Q=OkR (ex P C n st l s) (ix P C n r Q):=by
 simp only [vj,j5]
 congr 1
 funext p s
 obtain ⟨f,l⟩:=p
 cases f <;> rfl
theorem ax {s₀:MS}{range:Bool}{src:V}{tgt:V→Loc→MS→Res Loc}{body:Loc→MS→Res (Fl×Loc)}{Q:Fl×Loc→MS→Prop}
  (I:List V→Loc→MS→Prop)
  (hc:∀ x r l s,I (x :: r) l s→stays s₀ s range src=true∧OkR (tgt x l s) fun l s=>OkR (body l s) fun p s=>match p.1 with
   | .next=>I r p.2 s
   | .ret v=>Q (.ret v,p.2) s)
  (hn:∀ l s,I [] l s→stays s₀ s range src=true∧Q (.next,l) s) :
  ∀ (xs:List V) (l:Loc) (s:MS),I xs l s→OkR (jc s₀ range src tgt body xs l s) Q
 | [],l,s,h=>by
  obtain ⟨h1,h2⟩:=hn l s h
  simp only [vq,xo,h1,if_true,zj1]
  exact h2
 | x :: r,l,s,h=>by
  obtain ⟨h1,h2⟩:=hc x r l s h
  simp only [vq,xo,h1,if_true,j5,b9]
  refine qr h2 fun l s h=>qr h fun p s h=>?_
  obtain ⟨f,l⟩:=p
  cases f with
  | next=>exact ax I hc hn r l s h
  | ret v=>exact h
theorem ku {α β:Type}{s₀:MS}{range:Bool}{src:V}{tgt:V→Loc→MS→Res Loc}{body:Loc→MS→Res (Fl×Loc)}{Q:Fl×Loc→MS→Prop} (f:α→V) (L:β→Loc)
  (I:List α→β→MS→Prop)
  (hc:∀ x r y s,I (x :: r) y s→stays s₀ s range src=true∧OkR (tgt (f x) (L y) s) fun l s=>OkR (body l s) fun p s=>match p.1 with
   | .next=>∃ y,p.2=L y∧I r y s
   | .ret v=>Q (.ret v,p.2) s)
  (hn:∀ y s,I [] y s→stays s₀ s range src=true∧Q (.next,L y) s) :
  ∀ (xs:List α) (y:β) (s:MS),I xs y s→OkR (jc s₀ range src tgt body (xs.map f) (L y) s) Q
 | [],y,s,h=>by
  obtain ⟨h1,h2⟩:=hn y s h
  rw [List.map_nil,vq,if_pos h1]
  exact h2
 | x :: r,y,s,h=>by
  obtain ⟨h1,h2⟩:=hc x r y s h
  rw [List.map_cons,xo,if_pos h1,b9]
  refine qr h2 fun l s h=>?_
  rw [j5]
  refine qr h fun p s h=>?_
  obtain ⟨g,l⟩:=p
  cases g with
  | next =>
   obtain ⟨y,rfl,h⟩:=h
   exact ku f L I hc hn r y s h
  | ret v=>exact h
theorem zbq {α β:Type}{s:MS}{range:Bool}{src:V}{tgt:V→Loc→MS→Res Loc}{body:Loc→MS→Res (Fl×Loc)}{Q:Fl×Loc→MS→Prop} (f:α→V) (L:β→Loc) (J:MS→Prop) {xs:List α}{y:β} (h:J s)
  (hs:∀ t,J t→stays s t range src=true)
  (hc:∀ x∈xs,∀ y t,J t→OkR (tgt (f x) (L y) t) fun l t=>OkR (body l t) fun p t=>p.1=.next∧(∃ y,p.2=L y)∧J t)
  (k:∀ y t,J t→Q (.next,L y) t):OkR (jc s range src tgt body (xs.map f) (L y) s) Q:=by
 refine ku f L (fun r _ t=>(∀ x∈r,x∈xs)∧J t) (fun x r y t h=>⟨hs t h.2,qr (hc x (h.1 x (List.mem_cons_self ..)) y t h.2) fun l t h2=>qr h2 fun p t h3=>?_⟩) (fun y t h=>⟨hs t h.2,k y t h.2⟩) xs y s ⟨fun _ h=>h,h⟩
 rw [h3.1]
 obtain ⟨y,e⟩:=h3.2.1
 exact ⟨y,e,fun x hx=>h.1 x (List.mem_cons_of_mem _ hx),h3.2.2⟩
theorem tr {test:Loc→MS→Res V}{body:Loc→MS→Res (Fl×Loc)}{Q:Fl×Loc→MS→Prop}
  (I:Nat→Loc→MS→Prop)
  (hc:∀ k l s,I k l s→OkR (test l s) fun v s=>∃ b,v=.bool b∧(if b then 0 < k∧OkR (body l s) fun p s=>match p.1 with
    | .next=>I (k - 1) p.2 s
    | .ret v=>Q (.ret v,p.2) s
   else Q (.next,l) s)) :
  ∀ (n k:Nat) (l:Loc) (s:MS),k < n→I k l s→OkR (xq test body n l s) Q
 | 0,k,l,s,hk,h=>by omega
 | n + 1,k,l,s,hk,h=>by
  have h1:=hc k l s h
  simp only [xq,j5,b9]
  refine qr h1 fun v s h=>?_
  obtain ⟨b,rfl,h⟩:=h
  simp only [zqt,zj1]
  cases b with
  | false=>exact h
  | true =>
   simp only [if_true,j5,b9] at h ⊢
   obtain ⟨h0,h⟩:=h
   refine qr h fun p s h=>?_
   obtain ⟨f,l⟩:=p
   cases f with
   | next=>exact tr I hc n (k - 1) l s (by omega) h
   | ret v=>exact h
theorem zg5 {k a v:V}{r:List (V×V)} (h:cr a k=true):jp k ((a,v) :: r)=some v:=if_pos h
theorem zda {k a v:V}{r:List (V×V)} (h:cr a k=false):jp k ((a,v) :: r)=jp k r:=if_neg (by rw [h]; exact Bool.false_ne_true)
theorem zjy {k a v w:V}{r:List (V×V)} (h:cr a k=true):m4 k v ((a,w) :: r)=(a,v) :: r:=if_pos h
theorem zhe {k a v w:V}{r:List (V×V)} (h:cr a k=false):m4 k v ((a,w) :: r)=(a,w) :: m4 k v r:=if_neg (by rw [h]; exact Bool.false_ne_true)
theorem zey {s:MS}{r:Lbl}{d:List (V×V)} (h:s.heap r=some (.dict d)):dictAt (.ref r) s=some (r,d):=by
 show (match s.heap r with | some (.dict l)=>some (r,l) | _=>none)=_
 rw [h]
theorem tz {s:MS}{r:Lbl}{l:List V} (h:s.heap r=some (.list l)):kt (.ref r) s=some (r,l):=by
 show (match s.heap r with | some (.list l)=>some (r,l) | _=>none)=_
 rw [h]
theorem xn (s:MS) (r:Lbl) (d:List (V×V)) (k:List Nat) (v:V) (h:s.heap r=some (.dict d)) (hl:d.length < 16777216) :
  setItem (.ref r) (.str k) v s=.ok () (s.put r (.dict (m4 (.str k) v d))):=by
 rw [setItem,zey h]
 exact if_pos ⟨rfl,hl⟩
theorem kb (s:MS) (r:Lbl) (l:List V) (v:V) (h:s.heap r=some (.list l)) (hl:l.length < 16777216) :
  bq .append (.ref r) [v] s=.ok .none (s.put r (.list (l ++ [v]))):=by
 show (match kt (.ref r) s with | some p=>if p.2.length < zf then Res.ok V.none (s.put p.1 (.list (p.2 ++ [v]))) else .stuck | none=>.stuck)=_
 rw [tz h]
 exact if_pos hl
theorem w3 (s:MS) (r:Lbl) (d:List (V×V)) (k:List Nat) (v:V) (h:s.heap r=some (.dict d)) (hk:jp (.str k) d=some v) :
  getItem (.ref r) (.str k) s=.ok v s:=by
 show (match s.heap r with | some (.dict l)=>if (V.str k).isKey then okV s (jp (.str k) l) else .stuck | _=>.stuck)=_
 rw [h]
 show okV s (jp (.str k) d)=_
 rw [hk]; rfl
theorem cq (f:V→V→Option Bool):∀ l:List V,(∀ x∈l,f x x=some true)→qy f l l=some true
 | [],_=>rfl
 | x :: r,h=>by
  have h1:=h x (by simp)
  have h2:=cq f r (fun y hy=>h y (by simp [hy]))
  simp [qy,h1,h2]
theorem zuj (x y:List V) (s:MS) (h:x.length + y.length≤16777216):wa .add (.lst x) (.lst y) s=.ok (.lst (x ++ y)) s:=if_pos ⟨rfl,h⟩
noncomputable def st0:MS:=⟨fun _=>none,fun _=>0,0⟩
section
variable {P:Prog}{C:Calls}{n i:Nat}{e a b:E}{r:List S}{l:Loc}{s s':MS}{v w:V}{Q:Fl×Loc→MS→Prop}
theorem zz (k:Q (.next,l) s):OkR (exs P C n [] l s) Q:=k
theorem zi (k:OkR (exs P C n r l s) Q):OkR (exs P C n [] l s) (ix P C n r Q):=k
theorem zn (hv:ev P C e l s=.ok v s') (hi:decide (i < l.length)=true) (k:OkR (exs P C n r (l.set i (some v)) s') Q):OkR (exs P C n (.assign i e :: r) l s) Q:=by
 have hi:=of_decide_eq_true hi
 rw [vj,j5,pn,b9,hv]
 show OkR (if i < l.length then Res.ok (Fl.next,l.set i (some v)) s' else .stuck) _
 rw [if_pos hi]; exact k
theorem zcl {R:V→MS→Prop} (hv:OkR (ev P C e l s) R) (hi:decide (i < l.length)=true) (k:∀ v s',R v s'→OkR (exs P C n r (l.set i (some v)) s') Q):OkR (exs P C n (.assign i e :: r) l s) Q:=by
 obtain ⟨v,s',h1,h2⟩:=qz hv
 exact zn h1 hi (k v s' h2)
theorem qa (hv:ev P C e l s=.ok v s') (k:Q (.ret v,l) s'):OkR (exs P C n (.ret (some e) :: r) l s) Q:=by
 rw [vj,j5,zcb]
 show OkR ((ev P C e l s).bnd _) _
 rw [hv]; exact k
theorem rj (k:Q (.ret .none,l) s):OkR (exs P C n (.ret none :: r) l s) Q:=k
theorem zt {c:E}{b1 b2:List S}{t:Bool} (hc:ev P C c l s=.ok (.bool t) s') (k:OkR (exs P C n (if t then b1 else b2) l s') (ix P C n r Q)):OkR (exs P C n (.ite c b1 b2 :: r) l s) Q:=by
 rw [gm,zix,hc]
 cases t <;> exact k
theorem qc (hv:ev P C e l s=.ok v s') (k:OkR (exs P C n r l s') Q):OkR (exs P C n (.expr e :: r) l s) Q:=by
 rw [vj,j5,zd8,hv]; exact k
theorem j3 {R:V→MS→Prop} (hv:OkR (ev P C e l s) R) (k:∀ v s',R v s'→OkR (exs P C n r l s') Q):OkR (exs P C n (.expr e :: r) l s) Q:=by
 obtain ⟨v,s',h1,h2⟩:=qz hv
 exact qc h1 (k v s' h2)
theorem vf {x y:V}{s1 s2 s3:MS} (h1:ev P C e l s=.ok v s1) (h2:ev P C a l s1=.ok x s2) (h3:ev P C b l s2=.ok y s3) (h4:setItem x y v s3=.ok () s') (k:OkR (exs P C n r l s') Q):OkR (exs P C n (.setitem a b e :: r) l s) Q:=by
 rw [vj,j5,d0,h1]
 show OkR (Res.bnd (ev P C a l s1) _) _
 rw [h2]
 show OkR (Res.bnd (ev P C b l s2) _) _
 rw [h3]
 show OkR (Res.bnd (setItem x y v s3) _) _
 rw [h4]; exact k
theorem z8 {x:V}{s1 s2:MS} (h1:ev P C e l s=.ok v s1) (h2:ev P C a l s1=.ok x s2) (h3:setAttr x i v s2=.ok () s') (k:OkR (exs P C n r l s') Q):OkR (exs P C n (.setattr a i e :: r) l s) Q:=by
 rw [vj,j5,ly,h1]
 show OkR (Res.bnd (ev P C a l s1) _) _
 rw [h2]
 show OkR (Res.bnd (setAttr x i v s2) _) _
 rw [h3]; exact k
theorem vx {ts:T ⊕ List T}{range:Bool}{body:List S}{xs:List V} (h1:ev P C e l s=.ok v s') (h2:z6 s' range v=some xs) (h3:ty ts range v s'=true)
  (k:OkR (jc s' range v (u0 P C ts) (exs P C n body) xs l s') (ix P C n r Q)):OkR (exs P C n (.for_ ts range e body :: r) l s) Q:=by
 rw [gm,zh6,h1]
 show OkR (match z6 s' range v with | some xs=>_ | none=>_) _
 rw [h2]
 show OkR (if ty ts range v s'=true then _ else _) _
 rw [if_pos h3]; exact k
theorem jt {f:Nat}{es:List E}{vs:List V}{s1:MS} (h1:evL P C es l s=.ok vs s1) (h2:C f vs s1=.ok v s'):ev P C (.call f es) l s=.ok v s':=by
 rw [sg,h1]; exact h2
theorem zm3 {f:Nat}{es:List E}{vs:List V}{s1:MS}{R:V→MS→Prop} (h1:evL P C es l s=.ok vs s1) (h2:OkR (C f vs s1) R):OkR (ev P C (.call f es) l s) R:=by
 rw [sg,h1]; exact h2
theorem vp {o:Bop}{x y:V}{s1 s2:MS} (h1:ev P C a l s=.ok x s1) (h2:ev P C b l s1=.ok y s2) (h3:wa o x y s2=.ok v s'):ev P C (.bin o a b) l s=.ok v s':=by
 rw [zlw,h1]
 show Res.bind (ev P C b l s1) _=_
 rw [h2]; exact h3
theorem kh {x y:V}{s1 s2:MS} (h1:ev P C a l s=.ok x s1) (h2:ev P C b l s1=.ok y s2) (h3:getItem x y s2=.ok v s'):ev P C (.sub a b) l s=.ok v s':=by
 rw [zjj,h1]
 show Res.bind (ev P C b l s1) _=_
 rw [h2]; exact h3
theorem lx {lo hi:Option E}{x:V}{y z:Option V}{s1 s2 s3:MS} (h1:ev P C a l s=.ok x s1) (h2:evO P C lo l s1=.ok y s2) (h3:evO P C hi l s2=.ok z s3) (h4:xu x y z s3=.ok v s'):ev P C (.slice a lo hi) l s=.ok v s':=by
 rw [et,h1]
 show Res.bind (evO P C lo l s1) _=_
 rw [h2]
 show Res.bind (evO P C hi l s2) _=_
 rw [h3]; exact h4
theorem xg {o:Cop}{x y:V}{s1 s2:MS} (h1:ev P C a l s=.ok x s1) (h2:ev P C b l s1=.ok y s2) (h3:cmpOp o x y s2=.ok v s'):ev P C (.cmp a o b) l s=.ok v s':=by
 rw [zci,h1]
 show Res.bind (ev P C b l s1) _=_
 rw [h2]; exact h3
theorem y0 {q:Res V} (h:ev P C a l s=q):ev P C (.and [a]) l s=q:=by rw [lz,vb]; exact h
theorem yy {es:List E}{s1:MS}{q:Res V} (h1:ev P C a l s=.ok (.bool true) s1) (h2:ev P C (.and (b :: es)) l s1=q):ev P C (.and (a :: b :: es)) l s=q:=by
 rw [lz] at h2 ⊢
 rw [xe,h1]; exact h2
theorem py {es:List E}{s1:MS} (h1:ev P C a l s=.ok (.bool false) s1):ev P C (.and (a :: b :: es)) l s=.ok (.bool false) s1:=by
 rw [lz,xe,h1]; rfl
theorem v6 {q:Res V} (h:ev P C a l s=q):ev P C (.or [a]) l s=q:=by rw [zb4,yl]; exact h
theorem kg {es:List E}{s1:MS}{q:Res V} (h1:ev P C a l s=.ok (.bool false) s1) (h2:ev P C (.or (b :: es)) l s1=q):ev P C (.or (a :: b :: es)) l s=q:=by
 rw [zb4] at h2 ⊢
 rw [kj,h1]; exact h2
theorem zot {es:List E}{s1:MS} (h1:ev P C a l s=.ok (.bool true) s1):ev P C (.or (a :: b :: es)) l s=.ok (.bool true) s1:=by
 rw [zb4,kj,h1]; rfl
theorem kq {t:Bool}{s1:MS} (h1:ev P C a l s=.ok (.bool t) s1):ev P C (.not a) l s=.ok (.bool (!t)) s1:=by
 rw [zc8,h1]; rfl
theorem zu {x:V}{s1:MS} (h1:ev P C a l s=.ok x s1) (h2:getAttr x i s1=.ok v s'):ev P C (.attr a i) l s=.ok v s':=by
 rw [zd0,h1]; exact h2
theorem yu {g t:Bool}{s1:MS} (h1:ev P C a l s=.ok v s1) (h2:decide (v=.none)=t):ev P C (.isC g a .none) l s=.ok (.bool (t != g)) s1:=by
 rw [zcj,h1,← h2]; rfl
theorem zpn {c:Nat}{es:List E}{vs:List V}{s1:MS}{R:V→MS→Prop} (h1:evL P C es l s=.ok vs s1) (h2:OkR (xx P C c vs s1) R):OkR (ev P C (.new c es) l s) R:=by
 rw [zkw,h1]; exact h2
theorem zpa {es:List E}{vs:List V}{s1:MS} (h1:evL P C es l s=.ok vs s1) (hn:decide (vs.length≤zf)=true):ev P C (.lst es) l s=.ok (.lst vs) s1:=by
 rw [zls,h1]; exact if_pos (of_decide_eq_true hn)
theorem ff {es:List E}{vs:List V}{s1:MS} (h1:evL P C es l s=.ok vs s1) (hn:decide (vs.length≤zf)=true):ev P C (.tup es) l s=.ok (.tup vs) s1:=by
 rw [zkg,h1]; exact if_pos (of_decide_eq_true hn)
theorem yn {p:Prim}{es:List E}{vs:List V}{s1:MS} (h1:evL P C es l s=.ok vs s1) (h2:prim p vs s1=.ok v s'):ev P C (.prim p es) l s=.ok v s':=by
 rw [ss,h1]; exact h2
theorem zqd {m:Bm}{x:V}{s1:MS}{R R':V→MS→Prop} (h1:ev P C a l s=.ok x s1) (h0:za6 m x s1=true) (h2:OkR (ev P C e l s1) R') (h3:∀ v s',R' v s'→OkR (bq m x [v] s') R):OkR (ev P C (.bm m a [e]) l s) R:=by
 obtain ⟨v,s',h4,h5⟩:=qz h2
 rw [zj0,h1]
 show OkR (if za6 m x s1=true then _ else _) _
 rw [if_pos h0,ym,h4]; exact h3 v s' h5
theorem p3 {m:Bm}{es:List E}{x:V}{vs:List V}{s1 s2:MS} (h1:ev P C a l s=.ok x s1) (h0:za6 m x s1=true) (h2:evL P C es l s1=.ok vs s2) (h3:bq m x vs s2=.ok v s'):ev P C (.bm m a es) l s=.ok v s':=by
 rw [zj0,h1]
 show (if za6 m x s1=true then _ else _)=_
 rw [if_pos h0,h2]; exact h3
theorem zr {k f:Nat}{es:List E}{x:V}{vs:List V}{s1 s2:MS} (h1:ev P C a l s=.ok x s1) (h0:yx P x k s1=some f) (h2:evL P C es l s1=.ok vs s2) (h3:C f (x :: vs) s2=.ok v s'):ev P C (.meth a k es) l s=.ok v s':=by
 rw [ig,h1]
 show (match yx P x k s1 with | some f=>_ | none=>_)=_
 rw [h0]
 show Res.bind (evL P C es l s1) _=_
 rw [h2]; exact h3
theorem jn {k f:Nat}{es:List E}{x:V}{vs:List V}{s1 s2:MS}{R:V→MS→Prop} (h1:ev P C a l s=.ok x s1) (h0:yx P x k s1=some f) (h2:evL P C es l s1=.ok vs s2) (h3:OkR (C f (x :: vs) s2) R):OkR (ev P C (.meth a k es) l s) R:=by
 rw [ig,h1]
 show OkR (match yx P x k s1 with | some f=>_ | none=>_) _
 rw [h0]
 show OkR (Res.bind (evL P C es l s1) _) _
 rw [h2]; exact h3
theorem aq {k:Nat}{r:Lbl}{d:List (V×V)}{s1:MS} (h1:ev P C a l s=.ok (.ref r) s1) (h2:s1.heap r=some (.dict d)) (h3:d.length≤1000):ev P C (.dictC k a) l s=.ok (.ref (k,s1.cnt k)) (s1.new k (.dict d)):=by
 rw [ey,h1]
 show (match s1.heap r with | some (.dict d)=>if d.length≤1000 then Res.ok (V.ref (k,s1.cnt k)) (s1.new k (.dict d)) else .stuck | _=>.stuck)=_
 rw [h2]; exact if_pos h3
theorem s6 {k:Nat}{x:V}{b:Bool}{vs:List V}{s1:MS} (h1:ev P C a l s=.ok x s1) (h2:zv s1 x=some (b,vs)):ev P C (.listM k a) l s=.ok (.ref (k,s1.cnt k)) (s1.new k (.list vs)):=by
 rw [em,h1]
 show (match zv s1 x with | some (_,vs)=>Res.ok (V.ref (k,s1.cnt k)) (s1.new k (.list vs)) | none=>.stuck)=_
 rw [h2]
theorem wl {slot:Nat}{range:Bool}{cond:Option E}{src:V}{xs vs:List V}{s1 s2:MS} (h1:ev P C a l s=.ok src s1) (h2:z6 s1 range src=some xs) (h3:compLoop s1 range src slot (evC P C cond) (ev P C e) l [] xs s1=.ok vs s2) :
  ev P C (.comp none slot range a cond e) l s=.ok (.lst vs) s2:=by
 rw [lr,h1]
 show (match z6 s1 range src with | some xs=>_ | none=>_)=_
 rw [h2]
 show (Res.bind _ _)=_
 rw [h3]; rfl
theorem zm2 {k slot:Nat}{range:Bool}{cond:Option E}{src:V}{xs vs:List V}{s1 s2:MS} (h1:ev P C a l s=.ok src s1) (h2:z6 s1 range src=some xs) (h3:compLoop s1 range src slot (evC P C cond) (ev P C e) l [] xs s1=.ok vs s2) :
  ev P C (.comp (some k) slot range a cond e) l s=.ok (.ref (k,s2.cnt k)) (s2.new k (.list vs)):=by
 rw [lr,h1]
 show (match z6 s1 range src with | some xs=>_ | none=>_)=_
 rw [h2]
 show (Res.bind _ _)=_
 rw [h3]; rfl
theorem z5 {es:List E}{vs:List V}{s1:MS} (h1:ev P C e l s=.ok v s1) (h2:evL P C es l s1=.ok vs s'):evL P C (e :: es) l s=.ok (v :: vs) s':=by
 rw [ym,h1]
 show Res.bind (evL P C es l s1) _=_
 rw [h2]; rfl
end
theorem xr {s:MS}{r:Lbl}{l:List V} (h:s.heap r=some (.list l)):za6 .append (.ref r) s=true:=by
 show (kt (.ref r) s).isSome=true
 delta kt; dsimp only; rw [h]; rfl
theorem ag {α β:Type}{r:Res α}{a:α}{s:MS}{f:α→MS→Res β}{q:Res β} (h:r=.ok a s) (k:f a s=q):r.bind f=q:=by rw [h]; exact k
theorem xj {s:MS}{c:Lbl}{k:Nat}{as:List (Nat×V)} (i:Nat) (v:V) (h:s.heap c=some (.inst k as)) (hn:decide (as.length < 1000)=true):setAttr (.ref c) i v s=.ok () (s.put c (.inst k (p5 i v as))):=by
 show (match s.heap c with | some (.inst c' as)=>if as.length < 1000 then Res.ok () (s.put c (.inst c' (p5 i v as))) else .stuck | _=>.stuck)=_
 rw [h]
 exact if_pos (of_decide_eq_true hn)
theorem qd {s:MS}{c:Lbl}{k i:Nat}{as:List (Nat×V)}{v:V} (h:s.heap c=some (.inst k as)) (hv:vt i as=some v):getAttr (.ref c) i s=.ok v s:=by
 show (match s.heap c with | some (.inst _ as)=>okV s (vt i as) | _=>.stuck)=_
 rw [h]
 show okV s (vt i as)=_
 rw [hv]; rfl
theorem zm (s:MS) (c:Lbl) (o:MObj):(s.put c o).heap c=some o:=if_pos rfl
theorem zo {s:MS}{c l:Lbl}{o:MObj} (h:l≠c):(s.put c o).heap l=s.heap l:=if_neg h
theorem zy (s:MS) (k:Nat) (o:MObj):(s.new k o).heap (k,s.cnt k)=some o:=if_pos rfl
theorem q9 {s:MS}{k:Nat}{l:Lbl}{o:MObj} (h:l≠(k,s.cnt k)):(s.new k o).heap l=s.heap l:=if_neg h
theorem ze {a b i j:Nat} (h:a≠b):((a,i):Lbl)≠(b,j):=fun e=>h (congrArg Prod.fst e)
theorem zg {P:Prog}{s:MS}{r:Lbl}{c m:Nat}{as:List (Nat×V)} (h:s.heap r=some (.inst c as)):yx P (.ref r) m s=P.meths c m:=by
 show (match s.heap r with | some (.inst c _)=>P.meths c m | _=>none)=_
 rw [h]
theorem jm {s:MS}{r:Lbl}{l:List V} (h:s.heap r=some (.list l)):zv s (.ref r)=some (true,l):=by
 show (match s.heap r with | some (.list l)=>some (true,l) | _=>none)=_
 rw [h]
theorem znt (s:MS) (n:Nat) (r:Lbl) (l:List V) (hr:s.heap r=some (.list l)):veq s (n + 1) (.ref r) (.lst [])=some l.isEmpty:=by
 cases l <;> simp [veq,zv,hr,qy]
theorem zle (s:MS) (r:Lbl) (l:List V) (hr:s.heap r=some (.list l)):cmpOp .ne (.ref r) (.lst []) s=.ok (.bool (!l.isEmpty)) s:=by
 show okB s ((veq s 12 (.ref r) (.lst [])).map (!·))=_
 rw [znt s 11 r l hr]; rfl
end Mine
end
section
namespace Mine
open PySem PySem.W PyProof.Rows
noncomputable def attrs:List PySem.Str:=["number","begun","open_call","closed","known","written","laid","fresh","all_keys","houses","callers","post","rows"]
noncomputable def xz (i:Nat):PySem.Str:=match attrs[i]? with
  | some x=>x
  | none=>qh [0,i]
noncomputable def zee:Bool:=attrs.all (fun x=>!(x.cps[0]? == some 0)) && (List.range 13).all fun i=>(List.range 13).all fun j=>decide (attrs[i]?=attrs[j]?→i=j)
theorem ziz:zee=true:=by decide +kernel
theorem zj3 (i j:Nat) (h:xz i=xz j):i=j:=by
  have hok:=ziz
  simp only [zee,Bool.and_eq_true,List.all_eq_true,Bool.not_eq_true',beq_eq_false_iff_ne,decide_eq_true_eq] at hok
  unfold xz at h
  cases hi:attrs[i]? with
  | some x =>
    cases hj:attrs[j]? with
    | some y =>
      rw [hi,hj] at h
      simp only at h
      subst h
      have h1:i < 13:=(List.getElem?_eq_some_iff.1 hi).1
      have h2:j < 13:=(List.getElem?_eq_some_iff.1 hj).1
      exact hok.2 i (List.mem_range.2 h1) j (List.mem_range.2 h2) (hi.trans hj.symm)
    | none =>
      rw [hi,hj] at h
      simp only at h
      have:=hok.1 x (List.mem_of_getElem? hi)
      rw [h] at this
      exact (this rfl).elim
  | none =>
    cases hj:attrs[j]? with
    | some y =>
      rw [hi,hj] at h
      simp only at h
      have:=hok.1 y (List.mem_of_getElem? hj)
      rw [← h] at this
      exact (this rfl).elim
    | none =>
      rw [hi,hj] at h
      simp only [qh] at h
      injection h with h
      injection h with h
      injection h with _ h
      injection h
noncomputable def iy (x:PySem.Str):Bool:=!(x.cps[0]? == some 0) && attrs.all fun y=>!(y == x)
theorem zcd {x:PySem.Str} (h:iy x=true) (i:Nat):x≠xz i:=by
  simp only [iy,Bool.and_eq_true,List.all_eq_true,Bool.not_eq_true',beq_eq_false_iff_ne] at h
  unfold xz
  cases hi:attrs[i]? with
  | some y =>
    intro e
    exact h.2 y (List.mem_of_getElem? hi) e.symm
  | none =>
    rintro rfl
    exact h.1 rfl
noncomputable def uf (K:Frag) (x:PySem.Str):Option Value:=match K.lookup mainGlobals with
  | some ⟨_,_,.dict es _,_⟩=>nsFind es x
  | _=>none
noncomputable def ie (K:Frag):Bool:=match K.lookup mainGlobals with
  | some ⟨_,_,.dict _ _,_⟩=>true
  | _=>false
theorem o7 {K:Frag}{h:Heap}{mg:PySem.Str→Option Value} (X:K.In h) (hg:h.Ns mainGlobals mg) (hK:ie K=true) (x:PySem.Str):mg x=uf K x:=by
  unfold ie at hK
  split at hK
  · rename_i c dd es n sl ho
    obtain ⟨o,es',ep,h1,h2,h3,h4⟩:=hg
    have h5:=X _ _ ho
    rw [h1] at h5
    cases h5
    cases h2
    rw [← h4]
    simp only [uf,ho]
  · exact qg hK
set_option genCtorIdx false in
structure Tab where
  fal:List (Nat×Addr)
  cal:List (Nat×Addr)
  fnl:List (Nat×Fn)
  mel:List ((Nat×Nat)×Nat)
  inl:List (Nat×(Nat×Nat))
  xbl:List (Nat×List Nat)
noncomputable def noneNames:List PySem.Str:=["len","max","int","sorted","tuple","list","all","isinstance","range","dict","bool","str","ValueError"]
noncomputable def ziy (v:Option Value) (i:Int):Bool:=match v with
  | some (.int j _)=>decide (i=j)
  | _=>false
noncomputable def zje (v:Option Value) (x:PySem.Str):Bool:=match v with
  | some (.str y _)=>x == y
  | _=>false
theorem zjz {v:Option Value}{i:Int} (h:ziy v i=true):∃ k,v=some (.int i k):=by
  unfold ziy at h
  split at h
  · simp only [decide_eq_true_eq] at h; subst h; exact ⟨_,rfl⟩
  · exact qg h
theorem zh4 {v:Option Value}{x:PySem.Str} (h:zje v x=true):∃ k,v=some (.str x k):=by
  unfold zje at h
  split at h
  · simp only [beq_iff_eq] at h; subst h; exact ⟨_,rfl⟩
  · exact qg h
noncomputable def zkd (K:Frag) (N:Names):Bool :=
  ie K && N.gi.all (fun p=>ziy (uf K p.1) p.2) && N.gs.all (fun p=>zje (uf K p.1) (qh p.2)) && noneNames.all fun x=>(uf K x).isNone
noncomputable def zo5 (K:Frag) (N:Names) (T:Tab):Bool:=T.fal.all fun p=>keepIn K (.ref p.2) && (N.fn p.1 == Str.empty || decide (uf K (N.fn p.1)=some (.ref p.2)))
noncomputable def zoy (K:Frag) (Ca:Addr):Bool :=
  decide (findIn K (.ref Ca) "__getattribute__"=some (some (.builtin "object.__getattribute__"))) &&
  decide (findIn K (.ref Ca) "__getattr__"=some none) && decide (findIn K (.ref Ca) "__setattr__"=some (some (.builtin "object.__setattr__"))) &&
  attrs.all (fun x=>decide (findIn K (.ref Ca) x=some none)) && (clsIn K Ca).any (·.hasDict) && plainOver K Ca
noncomputable def zo1 (K:Frag) (T:Tab):Bool:=T.cal.all fun p=>zoy K p.2
noncomputable def zo8 (K:Frag) (N:Names) (T:Tab):Bool:=T.mel.all fun p=>match T.cal.lookup p.1.1 with
  | some Ca=>(match T.fal.lookup p.2 with
    | some a=>decide (findIn K (.ref Ca) (N.meth p.1.2)=some (some (.ref a))) && decide (typeIn K (.ref a)=some (.type "function")) && keepIn K (.ref a) && iy (N.meth p.1.2)
    | none=>false)
  | none=>true
noncomputable def zpb (K:Frag) (N:Names) (T:Tab):Bool:=T.inl.all fun p=>match T.cal.lookup p.1 with
  | some Ca=>(match T.fal.lookup p.2.2 with
    | some fi=>keepIn K (.ref Ca) && decide (uf K (N.cls p.1)=some (.ref Ca)) && makesIn K Ca && decide (findIn K (.ref Ca) "__init__"=some (some (.ref fi))) && decide (typeIn K (.ref fi)=some (.type "function"))
    | none=>false)
  | none=>false
noncomputable def zw1 (K:Frag) (T:Tab):Bool:=T.xbl.all fun p=>p.2.all fun k=>decide (kitOne K (.ref p.1) (sd k)=some true) && (decide (k=0) || decide (exmOne K (.ref p.1) (.ref k)=some true))
noncomputable def zxc (K:Frag) (N:Names) (T:Tab):Bool:=T.xbl.all fun p=>zml K p.1 && p.2.contains 0 && N.xs.all fun x=>p.2.contains x.2 || decide (kitOne K (.ref p.1) (sd x.2)=some false)
noncomputable def zxf (N:Names) (T:Tab):Bool:=T.mel.all fun p=>!N.xm p.1.2 || N.xf p.2
noncomputable def zq4 (K:Frag) (N:Names) (T:Tab):Bool:=T.fnl.all fun p=>match T.fal.lookup p.1 with
  | some a=>zlj K N p.2 a
  | none=>false
noncomputable def zw5 (K:Frag) (T:Tab) {G:Gd}{N:Names}{C:Calls}{d:Dp} (n:Nat) (H:Hyp G N C d):Bool:=T.fnl.all fun p=>!N.qf p.1 || (T.fal.lookup p.1).any fun a=>so K n H p.2 a
noncomputable def zww (K:Frag) (T:Tab) {G:Gd}{N:Names}{C:Calls}{d:Dp} (n:Nat) (H:Hyp G N C d):Bool:=T.fnl.all fun p=>(T.fal.lookup p.1).any fun a=>so K n H p.2 a
theorem mem_of_lookup {α β:Type} [BEq α] [LawfulBEq α]:∀ {l:List (α×β)}{k:α}{v:β},l.lookup k=some v→(k,v)∈l
  | [],_,_,h=>by simp at h
  | (a,b) :: l,k,v,h=>by
    rw [List.lookup_cons] at h
    split at h
    · rename_i e
      cases h
      rw [beq_iff_eq.1 e]; exact List.mem_cons_self ..
    · exact List.mem_cons_of_mem _ (mem_of_lookup h)
noncomputable def Tab.prog (T:Tab):Prog:=⟨fun f=>T.fnl.lookup f,fun c m=>T.mel.lookup (c,m),fun c=>T.inl.lookup c,fun c=>(T.xbl.lookup c).getD []⟩
noncomputable def Tab.gd (T:Tab) (prog:Program) (w:World) (K:Frag) (mg mb:PySem.Str→Option Value) (h:Heap):Gd :=
  ⟨prog,w,K,mg,mb,h,T.prog,fun f=>T.fal.lookup f,fun c=>T.cal.lookup c,xz⟩
theorem zmf {T:Tab}{N:Names}{prog:Program}{w:World}{K:Frag}{mg mb:PySem.Str→Option Value}{h:Heap} (hN:N.attr=xz)
    (X:K.In h) (g:h.Ns mainGlobals mg) (b:h.Ns builtinsNs mb) (bi:∀ x:PySem.Str,x≠"__name__"→mb x=bootBuiltins x) (lim:h.NoLimit)
    (h1:zkd K N=true) (h2:zo5 K N T=true) (h3:zo1 K T=true) (h4:zo8 K N T=true) (h5:zpb K N T=true) (hxw:∀ y c,N.xs.contains (y,c)=true→c≠0∧OwnCls y c vbm "ValueError.__new__" mg h) (h6:zw1 K T=true) (h7:zxf N T=true) (h8:zxc K N T=true):Stat (T.gd prog w K mg mb h) N:=by
  simp only [zkd,Bool.and_eq_true,List.all_eq_true] at h1
  obtain ⟨⟨⟨g1,g2⟩,g3⟩,g4⟩:=h1
  have hm:=fun x=>o7 X g g1 x
  simp only [zo5,zo1,zo8,zpb,List.all_eq_true,Bool.and_eq_true,Bool.or_eq_true,beq_iff_eq,decide_eq_true_eq] at h2 h3 h4 h5
  constructor
  · refine ⟨X,g,b,bi,lim,fun x i hc=>?_,fun x i hc=>?_,zj3,hN,fun x hx=>?_⟩
    · obtain ⟨k,e⟩:=zjz (g2 (x,i) (by simpa using hc))
      exact ⟨k,(hm x).trans e⟩
    · obtain ⟨k,e⟩:=zh4 (g3 (x,i) (by simpa using hc))
      exact ⟨k,(hm x).trans e⟩
    · exact (hm x).trans (Option.isNone_iff_eq_none.1 (g4 x hx))
  · intro c Ca hc
    have e:=h3 _ (mem_of_lookup hc)
    simp only [zoy,Bool.and_eq_true,decide_eq_true_eq,List.all_eq_true] at e
    obtain ⟨⟨⟨⟨⟨e1,e2⟩,e3⟩,e4⟩,e5⟩,e6⟩:=e
    refine ⟨e1,e2,e3,fun i hi=>?_,?_,e6⟩
    · show findIn K (.ref Ca) (xz i)=some none
      unfold xz
      have hlt:i < attrs.length:=hi
      rw [List.getElem?_eq_getElem hlt]
      exact e4 _ (List.getElem_mem _)
    · show ∃ cd,clsIn K Ca=some cd∧cd.hasDict=true
      cases hc:clsIn K Ca with
      | none=>rw [hc] at e5; exact qg e5
      | some cd=>rw [hc] at e5; exact ⟨cd,rfl,e5⟩
  · intro f a hf
    have e:=h2 _ (mem_of_lookup hf)
    exact ⟨e.1,e.2.imp id fun e=>(hm _).trans e⟩
  · intro c k f Ca hc hca
    have e:=h4 _ (mem_of_lookup hc)
    have hca:T.cal.lookup c=some Ca:=hca
    simp only [hca] at e
    split at e
    · rename_i a ha
      simp only [Bool.and_eq_true,decide_eq_true_eq] at e
      obtain ⟨⟨⟨e1,e2⟩,e3⟩,e4⟩:=e
      exact ⟨a,ha,e1,e2,e3,zcd e4⟩
    · exact qg e
  · intro c k f hc
    have e:=h5 _ (mem_of_lookup hc)
    simp only at e
    split at e
    · rename_i Ca hca
      split at e
      · rename_i fi hfi
        simp only [Bool.and_eq_true,decide_eq_true_eq] at e
        obtain ⟨⟨⟨⟨e1,e2⟩,e3⟩,e4⟩,e5⟩:=e
        exact ⟨Ca,fi,hca,hfi,e1,(hm _).trans e2,e3,e4,e5⟩
      · exact qg e
    · exact qg e
  · exact hxw
  · intro c k h1 h2
    have h1:((T.xbl.lookup c).getD []).contains c=true:=h1
    have h2:((T.xbl.lookup c).getD []).contains k=true:=h2
    show kitOne K (.ref c) (sd k)=some true∧(k≠0→exmOne K (.ref c) (.ref k)=some true)
    cases hl:T.xbl.lookup c with
    | none=>rw [hl] at h1; exact qg h1
    | some l =>
      rw [hl] at h2
      have e:=List.all_eq_true.1 (List.all_eq_true.1 h6 _ (mem_of_lookup hl)) k (List.contains_iff_mem.1 h2)
      obtain ⟨e1,e2⟩:=Bool.and_eq_true_iff.1 e
      exact ⟨of_decide_eq_true e1,fun hk=>(Bool.or_eq_true_iff.1 e2).elim (fun z=>absurd (of_decide_eq_true z) hk) of_decide_eq_true⟩
  · intro k c f hk hc
    have e:=List.all_eq_true.1 h7 _ (mem_of_lookup hc)
    exact (Bool.or_eq_true_iff.1 e).elim (fun z=>by rw [show N.xm k=true from hk] at z; exact qg z) id
  · intro c k h1 h2
    have h1:((T.xbl.lookup c).getD []).contains c=true:=h1
    show zml K c=true∧kitOne K (.ref c) (sd k)=some (((T.xbl.lookup c).getD []).contains k)
    cases hl:T.xbl.lookup c with
    | none=>rw [hl] at h1; exact qg h1
    | some l =>
      rw [hl] at h1
      obtain ⟨e1,e2⟩:=Bool.and_eq_true_iff.1 (List.all_eq_true.1 h8 _ (mem_of_lookup hl))
      obtain ⟨e0,e1⟩:=Bool.and_eq_true_iff.1 e1
      refine ⟨e0,?_⟩
      show kitOne K (.ref c) (sd k)=some (l.contains k)
      cases hk:l.contains k with
      | true =>
        have e:=List.all_eq_true.1 (List.all_eq_true.1 h6 _ (mem_of_lookup hl)) k (List.contains_iff_mem.1 hk)
        exact of_decide_eq_true (Bool.and_eq_true_iff.1 e).1
      | false =>
        rcases h2 with rfl | ⟨y,h2⟩
        · rw [hk] at e1; exact qg e1
        · have e:=List.all_eq_true.1 e2 _ (List.contains_iff_mem.1 h2)
          exact of_decide_eq_true ((Bool.or_eq_true_iff.1 e).resolve_left fun z=>by rw [hk] at z; exact qg z)
theorem zbw:∀ {ns:List Int}{n:Nat},PyData.weightAll (ns.map .int)≤n→∀ i∈ns,intBits i≤n
  | [],_,_,i,hi=>by cases hi
  | j :: ns,n,h,i,hi=>by
    simp only [List.map_cons,PyData.weightAll,PyData.weight] at h
    rcases List.mem_cons.1 hi with rfl | hi
    · unfold intBits
      by_cases e:i=0
      · simp [e]
      · simp [e] at h ⊢; lia
    · exact zbw (by lia) i hi
theorem zh0 {ns:List Int} (h:(PyData.list (ns.map .int)).layable0=true):∀ i∈ns,intBits i≤1048576:=by
  simp only [PyData.layable0,Bool.and_eq_true,PyData.weight] at h
  exact zbw (of_decide_eq_true h.2)
theorem zgj {T:Tab}{N:Names}{prog:Program}{w:World}{K:Frag}{mg mb:PySem.Str→Option Value}{s:Shared} (S:Stat (T.gd prog w K mg mb s.heap) N) (hf:zq4 K N T=true) (hb:∀ (G:Gd) (C:Calls) (n:Nat) (H:Hyp G N C ⟨n,true⟩),zww K T n H=true) (hbq:∀ (G:Gd) (C:Calls) (n:Nat) (H:Hyp G N C ⟨n,false⟩),zw5 K T n H=true)
    {n law:Nat}{fa la:Addr}{ns:List Int}{vals:List Value} (hA:AC ⟨n,true⟩ callerA) (hfa:T.fal.lookup law=some fa) (hz:s.heap.get? la=some { cls:=.type "list",data:=.seq vals.toArray }) (hlen:ns.length≤63) (hI:IntsAre vals ns)
    {st':MS} (hrun:run T.prog n law [.lst (ns.map .int)] st0=.ok (.bool true) st') {B:Result→Shared→Prop}
    (k:∀ s':Shared,(∀ b o,s.heap.get? b=some o→s'.heap.get? b=some o)→s'.os=s.os→s'.gens=s.gens→B (.ok (.ret (.bool true))) s') :
    codeAny (model prog w) callerA (.call (.ref fa) ⟨[.ref la],[]⟩) B s:=by
  let G:=T.gd prog w K mg mb s.heap
  have hok:∀ f fn,G.P.fns f=some fn→∃ a,G.fa f=some a∧zlj G.K N fn a=true:=by
    intro f fn h
    have e:=List.all_eq_true.1 hf _ (mem_of_lookup h)
    simp only at e
    split at e
    · rename_i a ha
      exact ⟨a,ha,e⟩
    · exact qg e
  have hfn:∀ f fn,G.P.fns f=some fn→∃ a,G.fa f=some a∧FnRec G true (CallsA G N.xf N.qf) fn a:=by
    intro f fn h
    obtain ⟨a,ha,e⟩:=hok f fn h
    refine ⟨a,ha,ew (fun _ _=>S.hyp) e fun C n H=>?_⟩
    have g:=List.all_eq_true.1 (hb G C n H) _ (mem_of_lookup h)
    rw [show T.fal.lookup f=some a from ha] at g
    exact g
  have hfq:∀ f fn,N.qf f=true→G.P.fns f=some fn→∃ a,G.fa f=some a∧FnRec G false (fun C n=>dj G C n N.qf) fn a:=by
    intro f fn hx h
    obtain ⟨a,ha,e⟩:=hok f fn h
    refine ⟨a,ha,ew (fun _ _=>S.hypQ) e fun C n H=>?_⟩
    have g:=(Bool.or_eq_true_iff.1 (List.all_eq_true.1 (hbq G C n H) _ (mem_of_lookup h))).resolve_left fun z=>by
      rw [show N.qf f=true from hx] at z; exact qg z
    rw [show T.fal.lookup f=some a from ha] at g
    exact g
  let t0:Tie:=⟨fun _=>none,fun _=>none,fun _=>False,0,[]⟩
  have hno:∀ a,¬ t0.Avoid a:=by
    rintro a (⟨l,e | e⟩ | e)
    · exact za e
    · exact za e
    · exact e
  have R:Rel G t0 st0 s :=
    { base:=fun b o e=>e,apart:=fun a q=>(hno a q).elim,live:=fun a q=>(hno a q).elim,pv:=fun a q=>q.elim,injρ:=(fun l l' a e=>by exact za e),injδ:=(fun l l' a e=>by exact za e),two:=(fun l l' a e=>by exact za e),
      objs:=(fun l o e=>by exact za e),cnt:=(fun k i _=>⟨rfl,rfl,rfl⟩),sys:=(fun l e=>by exact za e),wr:=rfl }
  have hV:∀ {vs:List Value}{ms:List Int},IntsAre vs ms→VRels t0 s.heap (ms.map .int) vs:=by
    intro vs ms h
    induction h with
    | nil=>rfl
    | cons n t _ ih=>exact ⟨_,_,rfl,⟨t,rfl⟩,ih⟩
  have rv:VRel t0 s.heap (.lst (ns.map .int)) (.ref la):=⟨la,vals.toArray,rfl,⟨_,hz⟩,hno _,by rw [List.length_map]; unfold zf; lia,hV hI⟩
  obtain ⟨a,ha,go⟩:=(fq S.O hfn hfq n).ok law [.lst (ns.map .int)] st0 (.bool true) st' hrun callerA hA
  have:a=fa:=by
    have ha:T.fal.lookup law=some a:=ha
    rw [hfa] at ha; cases ha; rfl
  subst this
  refine go t0 s [.ref la] ⟨rfl,fun e he=>by cases he⟩ R ⟨_,_,rfl,rv,rfl⟩ B fun v t' s' S' R' r=>?_
  have r:v=.bool true:=r
  subst r
  exact k s' R'.base S'.os S'.gens
end Mine
end
section
namespace Mine
noncomputable def f_cell:Fn:=⟨2,["_law_script","_law_k"],[.ite (.cmp (.loc 1) .lt (.prim .len [.loc 0])) [.ret (some (.sub (.loc 0) (.loc 1)))] [],.ret (some (.int 0))]⟩
noncomputable def f_wish:Fn:=⟨1,["_law_cell","_law_number"],[.assign 1 (.bin .sub (.bin .mod (.bin .fdiv (.loc 0) (.int 6)) (.int 7)) (.int 3)),.ite (.cmp (.bin .mod (.bin .fdiv (.loc 0) (.int 3)) (.int 2)) .eq (.int 1)) [.assign 1 (.bin .sub (.bin .mod (.bin .fdiv (.loc 0) (.int 6)) (.bin .add (.bin .mul (.int 2) (.bin .pow (.int 10) (.int 30))) (.int 1))) (.bin .pow (.int 10) (.int 30)))] [],.ret (some (.sub (.lst [.tup [.str [103,101,116]],.tup [.str [115,101,116],.loc 1],.tup [.str [97,100,100],.loc 1]]) (.bin .mod (.loc 0) (.int 3))))]⟩
noncomputable def f_keys:Fn:=⟨1,["_law_cell","_law_letters","_law_many","_law_size","_law_at","_law_turn","_law_rest","","",""],[.assign 1 (.str [97,98,99,100,101,102,103,104,105,106,107,108,109,110,111,112,113,114,115,116,117,118,119,120,121,122]),.assign 2 (.bin .add (.int 1) (.bin .mod (.loc 0) (.int 6))),.assign 3 (.bin .mod (.bin .fdiv (.loc 0) (.int 6)) (.int 8)),.assign 4 (.bin .mod (.bin .fdiv (.loc 0) (.int 48)) (.bin .add (.loc 3) (.int 1))),.assign 5 (.bin .fdiv (.loc 0) (.int 432)),.assign 6 (.bm .join (.str []) [.comp none 7 true (.loc 3) none (.sub (.loc 1) (.bin .mod (.bin .add (.bin .fdiv (.loc 5) (.int 26)) (.bin .mul (.int 5) (.loc 7))) (.int 26)))]),.ite (.cmp (.bin .mod (.loc 5) (.int 3)) .eq (.int 1)) [.ret (some (.comp none 8 true (.loc 2) none (.slice (.bin .add (.loc 6) (.str [113,119,101,114,116,121,117,105])) none (some (.bin .add (.loc 8) (.int 1))))))] [],.ret (some (.comp none 9 true (.loc 2) none (.bin .add (.bin .add (.slice (.loc 6) none (some (.loc 4))) (.sub (.loc 1) (.bin .mod (.bin .add (.loc 5) (.loc 9)) (.int 26)))) (.slice (.loc 6) (some (.loc 4)) none))))]⟩
inductive W where | get | set (i:Int) | add (i:Int)
noncomputable def wv:W→V
 | .get=>.tup [.str [103,101,116]]
 | .set i=>.tup [.str [115,101,116],.int i]
 | .add i=>.tup [.str [97,100,100],.int i]
noncomputable def dn (a:Int):W→Int×Int
 | .get=>(a,a)
 | .set i=>(i,a)
 | .add i=>(a + i,a + i)
variable {P:Prog}
theorem eu {s:MS}{a:V}{k:Bool}{l:List V} (h:zv s a=some (k,l)) (i:Nat) (hi:i < l.length):getItem a (.int i) s=.ok l[i] s:=by
 have h0:(0:Int)≤i:=by lia
 have h1:(i:Int) < l.length:=by lia
 cases a <;> simp [zv] at h <;> simp_all [getItem,zv,idx,okV]
theorem zbt {f:Nat} (hf:P.fns f=some f_cell) (n:Nat) (l:List Int) (k:Nat) (s:MS):run P (n + 1) f [.lst (l.map .int),.int k] s=.ok (.int (l.getD k 0)) s:=by
 refine qm (zl (fn:=f_cell) hf rfl ?_)
 have hc:ev P (run P n) (.cmp (.loc 1) .lt (.prim .len [.loc 0])) [some (.lst (l.map .int)),some (.int k)] s=.ok (.bool (decide ((k:Int) < ((l.map V.int).length:Nat)))) s:=rfl
 rw [List.length_map] at hc
 by_cases h:k < l.length
 ·refine zt (hc.trans (congrArg (fun b=>Res.ok (V.bool b) s) (decide_eq_true (by lia)))) (qa (kh (s1:=s) (s2:=s) rfl rfl (eu (a:=.lst (l.map .int)) (k:=true) rfl k (by simpa using h))) ⟨?_,rfl⟩)
  simp [flV,h]
 ·refine zt (hc.trans (congrArg (fun b=>Res.ok (V.bool b) s) (decide_eq_false (by lia)))) (zi (qa rfl ⟨?_,rfl⟩))
  simp [flV,h]
theorem zg4 {f:Nat} (hf:P.fns f=some f_cell) (n:Nat) (l:List Int) (s:MS):run P (n + 1) f [.lst (l.map .int),.int 0] s=.ok (.int (l.getD 0 0)) s:=zbt hf n l 0 s
theorem zge {f:Nat} (hf:P.fns f=some f_cell) (n:Nat) (l:List Int) (s:MS):run P (n + 1) f [.lst (l.map .int),.int 1] s=.ok (.int (l.getD 1 0)) s:=zbt hf n l 1 s
noncomputable def d6 (c:Int) (b:Bool):Int:=match b with
 | true=>(c.fdiv 6).fmod 2000000000000000000000000000001 - 1000000000000000000000000000000
 | false=>(c.fdiv 6).fmod 7 - 3
noncomputable def dx (k i:Int):W:=if k=0 then .get else if k=1 then .set i else .add i
noncomputable def zcs (c:Int):W:=dx (c.fmod 3) (d6 c (decide ((c.fdiv 3).fmod 2=1)))
theorem zeu (k i:Int) (s:MS) (h:k=0∨k=1∨k=2):getItem (.lst [.tup [.str [103,101,116]],.tup [.str [115,101,116],.int i],.tup [.str [97,100,100],.int i]]) (.int k) s=.ok (wv (dx k i)) s:=by
 rcases h with rfl | rfl | rfl <;> rfl
theorem zj7 {f:Nat} (hf:P.fns f=some f_wish) (n:Nat) (c:Int) (s:MS):run P (n + 1) f [.int c] s=.ok (wv (zcs c)) s:=by
 refine qm (zl (fn:=f_wish) hf rfl ?_)
 have h3:c.fmod 3=0∨c.fmod 3=1∨c.fmod 3=2:=by
  rw [Int.fmod_eq_emod_of_nonneg c (by decide)]; lia
 refine zn (v:=.int (d6 c false)) rfl rfl ?_
 cases hb:decide ((c.fdiv 3).fmod 2=1)
 ·refine zt (t:=false) (congrArg (fun b=>Res.ok (V.bool b) s) hb) (zi (qa (zeu (c.fmod 3) (d6 c false) s h3) ⟨?_,rfl⟩))
  show wv (dx _ (d6 c false))=wv (dx _ (d6 c (decide _))); rw [hb]
 ·refine zt (t:=true) (congrArg (fun b=>Res.ok (V.bool b) s) hb) (zn (v:=.int (d6 c true)) rfl rfl (zi (qa (zeu (c.fmod 3) (d6 c true) s h3) ⟨?_,rfl⟩)))
  show wv (dx _ (d6 c true))=wv (dx _ (d6 c (decide _))); rw [hb]
theorem zbi (x y:Int) (h:0≤y):x.fmod y=x % y:=Int.fmod_eq_emod_of_nonneg x h
noncomputable def abc:List Nat:=[97,98,99,100,101,102,103,104,105,106,107,108,109,110,111,112,113,114,115,116,117,118,119,120,121,122]
noncomputable def ka (x:Int):Nat:=abc[(x.fmod 26).toNat]?.getD 97
theorem q8 (x m:Int) (h:0 < m):0≤x.fmod m∧x.fmod m < m:=by
 rw [Int.fmod_eq_emod_of_nonneg x (Int.le_of_lt h)]
 exact ⟨Int.emod_nonneg x (Int.ne_of_gt h),Int.emod_lt_of_pos x h⟩
theorem zk8 (x:Int) (s:MS):getItem (.str abc) (.int (x.fmod 26)) s=.ok (.str [ka x]) s:=by
 obtain ⟨h1,h2⟩:=q8 x 26 (by decide)
 have h3:(x.fmod 26).toNat < abc.length:=by show _ < 26; lia
 refine (zv1 abc (x.fmod 26) s h1 (by show _ < (26:Int); exact h2) (by decide)).trans ?_
 rw [ka,List.getElem?_eq_getElem h3]; rfl
theorem zob:∀ i:Fin 26,abc[i.1]?.getD 97=97 + i.1:=by decide
theorem pu (x:Int):ka x=97 + (x.fmod 26).toNat:=by
 obtain ⟨h1,h2⟩:=q8 x 26 (by decide)
 exact zob ⟨(x.fmod 26).toNat,by lia⟩
theorem zhp (x:List Nat) (j:Int) (s:MS) (h:0≤j) (hx:x.length≤16777216):xu (.str x) none (some (.int j)) s=.ok (.str (x.take j.toNat)) s:=by
 have hx:x.length≤zf:=hx
 simp [xu,ke,h,hx]
theorem zm4 (x:List Nat) (j:Int) (s:MS) (h:0≤j) (hx:x.length≤16777216):xu (.str x) (some (.int j)) none s=.ok (.str (x.drop j.toNat)) s:=by
 have hx:x.length≤zf:=hx
 simp [xu,ke,h,hx]
theorem zmz {vs:List V}{x:List Nat} (s:MS) (h:wu vs=some x) (hx:x.length≤16777216):bq .join (.str []) [.lst vs] s=.ok (.str x) s:=by
 have hx:x.length≤zf:=hx
 simp only [bq,bm1,h,if_pos hx]
noncomputable def ve (z:Nat) (t:Int):List Nat:=(List.range z).map fun (k:Nat)=>ka (t.fdiv 26 + 5 * k)
noncomputable def qwe:List Nat:=[113,119,101,114,116,121,117,105]
noncomputable def ur (m z a:Nat) (t:Int) (b:Bool):List (List Nat):=match b with
 | true=>(List.range m).map fun (k:Nat)=>(ve z t ++ qwe).take (k + 1)
 | false=>(List.range m).map fun (k:Nat)=>(ve z t).take a ++ [ka (t + k)] ++ (ve z t).drop a
noncomputable def di (c:Int):List (List Nat) :=
 ur (1 + c.fmod 6).toNat ((c.fdiv 6).fmod 8).toNat ((c.fdiv 48).fmod ((c.fdiv 6).fmod 8 + 1)).toNat (c.fdiv 432) (decide ((c.fdiv 432).fmod 3=1))
theorem zaw (z:Nat) (t:Int):(ve z t).length=z:=by rw [ve,List.length_map,List.length_range]
theorem zep (f:Nat→Nat):∀ l:List Nat,wu (l.map fun k=>V.str [f k])=some (l.map f)
 | []=>rfl
 | k :: l=>by rw [List.map_cons,wu,zep f l]; rfl
theorem zhn (x:List Nat) (a:Nat) (h:x.length < 8):(x.take a).length + 1≤16777216:=by rw [List.length_take]; omega
theorem zki (x:List Nat) (a c:Nat) (h:x.length < 8):(x.take a ++ [c]).length + (x.drop a).length≤16777216:=by rw [List.length_append,List.length_take,List.length_drop]; show min _ _ + 1 + _≤_; omega
theorem ze0 {f:Nat} (hf:P.fns f=some f_keys) (n:Nat) (c:Int) (s:MS):run P (n + 1) f [.int c] s=.ok (.lst ((di c).map .str)) s:=by
 obtain ⟨hm0,hm1⟩:=q8 c 6 (by decide)
 obtain ⟨hz0,hz1⟩:=q8 (c.fdiv 6) 8 (by decide)
 refine qm (zl (fn:=f_keys) hf rfl ?_)
 refine zn (v:=.str abc) rfl rfl (zn (v:=.int (1 + c.fmod 6)) rfl rfl (zn (v:=.int ((c.fdiv 6).fmod 8)) rfl rfl ?_))
 unfold di
 generalize c.fmod 6=m at hm0 hm1
 generalize (c.fdiv 6).fmod 8=z at hz0 hz1
 have hz2:¬ (z + 1=0):=by lia
 refine zn (v:=.int ((c.fdiv 48).fmod (z + 1))) (if_neg hz2) rfl (zn (v:=.int (c.fdiv 432)) rfl rfl ?_)
 obtain ⟨ha0,-⟩:=q8 (c.fdiv 48) (z + 1) (by lia)
 generalize (c.fdiv 48).fmod (z + 1)=a at ha0
 generalize c.fdiv 432=t
 have hzn:(0:Nat) + ((List.range z.toNat).map fun (i:Nat)=>V.int i).length≤zf:=by rw [List.length_map,List.length_range]; show _≤16777216; lia
 have hxl:(ve z.toNat t).length < 8:=by rw [zaw]; lia
 refine zn (v:=.str (ve z.toNat t)) (s':=s) (p3 (x:=.str []) (vs:=[.lst (((List.range z.toNat).map fun (i:Nat)=>V.int i).map fun v=>match v with | .int i=>V.str [ka (t.fdiv 26 + 5 * i)] | _=>.none)]) (s2:=s) rfl rfl (z5 (wl rfl (j8 s z hz0 (by lia)) (ux s s true (.int z) 7 _ _ _ rfl _ [] ?_ hzn)) rfl) ?_) rfl ?_
 ·intro x hx
  obtain ⟨i,-,rfl⟩:=List.mem_map.1 hx
  exact kh (s1:=s) (s2:=s) rfl (vp (x:=.int (t.fdiv 26 + 5 * i)) (s1:=s) (s2:=s) (vp (x:=.int (t.fdiv 26)) (s1:=s) rfl (zqn 5 i s (by decide) (by decide)) rfl) rfl rfl) (zk8 (t.fdiv 26 + 5 * i) s)
 ·refine zmz s ?_ (by lia)
  rw [List.map_map]
  exact zep (fun (k:Nat)=>ka (t.fdiv 26 + 5 * k)) (List.range z.toNat)
 have hmn:(0:Nat) + ((List.range (1 + m).toNat).map fun (i:Nat)=>V.int i).length≤zf:=by rw [List.length_map,List.length_range]; show _≤16777216; lia
 have hit:z6 s true (.int (1 + m))=some ((List.range (1 + m).toNat).map fun (i:Nat)=>.int i):=j8 s _ (by lia) (by lia)
 unfold ur
 generalize ve z.toNat t=x at hxl
 cases hb:decide (t.fmod 3=1)
 ·refine zt (t:=false) (congrArg (fun b=>Res.ok (V.bool b) s) hb) (zi (qa (wl rfl hit (ux s s true (.int (1 + m)) 9 _ _ (fun v=>match v with | .int i=>V.str (x.take a.toNat ++ [ka (t + i)] ++ x.drop a.toNat) | _=>.none) rfl _ [] ?_ hmn)) ⟨?_,rfl⟩))
  ·intro y hy
   obtain ⟨i,-,rfl⟩:=List.mem_map.1 hy
   have h1:=zhn x a.toNat hxl
   have h2:=zki x a.toNat (ka (t + i)) hxl
   exact vp (s1:=s) (s2:=s) (x:=.str (x.take a.toNat ++ [ka (t + i)])) (vp (s1:=s) (s2:=s) (zhp x a s ha0 (by lia)) (kh (s1:=s) (s2:=s) rfl rfl (zk8 (t + i) s)) (zju _ _ s h1)) (zm4 x a s ha0 (by lia)) (zju _ _ s h2)
  ·show V.lst ([] ++ _)=_
   rw [List.nil_append,List.map_map,List.map_map]; rfl
 ·refine zt (t:=true) (congrArg (fun b=>Res.ok (V.bool b) s) hb) (qa (wl rfl hit (ux s s true (.int (1 + m)) 8 _ _ (fun v=>match v with | .int i=>V.str ((x ++ qwe).take (i + 1).toNat) | _=>.none) rfl _ [] ?_ hmn)) ⟨?_,rfl⟩)
  ·intro y hy
   obtain ⟨i,-,rfl⟩:=List.mem_map.1 hy
   have h1:x.length + qwe.length≤16777216:=by show x.length + 8≤_; lia
   exact lx (s1:=s) (s2:=s) (s3:=s) (vp (s1:=s) (s2:=s) rfl rfl (zju x qwe s h1)) rfl rfl (zhp (x ++ qwe) (i + 1) s (by lia) (by rw [List.length_append]; exact h1))
  ·show V.lst ([] ++ _)=_
   rw [List.nil_append,List.map_map,List.map_map]; rfl
set_option genCtorIdx false in
structure KeysOk (ks:List (List Nat)):Prop where
 pos:0 < ks.length
 six:ks.length≤6
 nd:ks.Nodup
theorem p7 {α:Type} (f:Nat→α) (m:Nat) (h:∀ i j,i < m→j < m→f i=f j→i=j):((List.range m).map f).Nodup:=by
 refine List.pairwise_map.2 (List.Pairwise.imp_of_mem (fun ha hb hlt e=>?_) List.pairwise_lt_range)
 have:=h _ _ (List.mem_range.1 ha) (List.mem_range.1 hb) e
 lia
theorem fx (x:Int):97≤ka x∧ka x≤122:=by
 rw [pu]
 obtain ⟨h1,h2⟩:=q8 x 26 (by decide)
 lia
theorem zkr (z:Nat) (t:Int):∀ c∈ve z t,97≤c∧c≤122:=by
 intro c hc
 obtain ⟨k,-,rfl⟩:=List.mem_map.1 hc
 exact fx _
theorem zjq {l:List Nat} (h:8≤l.length) (i j:Nat) (hi:i < 6) (hj:j < 6) (e:l.take (i + 1)=l.take (j + 1)):i=j:=by
 have:=congrArg List.length e
 rw [List.length_take,List.length_take,Nat.min_eq_left (by lia),Nat.min_eq_left (by lia)] at this
 exact Nat.succ.inj this
theorem zcm (t:Int) (i j:Nat) (hi:i < 6) (hj:j < 6) (e:ka (t + i)=ka (t + j)):i=j:=by
 rw [pu,pu,zbi _ _ (by decide),zbi _ _ (by decide)] at e
 have e1:=congrArg Int.ofNat (Nat.add_left_cancel e)
 rw [Int.ofNat_eq_natCast,Int.ofNat_eq_natCast,Int.toNat_of_nonneg (Int.emod_nonneg _ (by decide)),Int.toNat_of_nonneg (Int.emod_nonneg _ (by decide))] at e1
 obtain ⟨k,hk⟩:=Int.dvd_of_emod_eq_zero (Int.emod_eq_emod_iff_emod_sub_eq_zero.mp e1)
 rw [Int.add_sub_add_left] at hk
 omega
theorem zg1 {m:Nat} (h0:0 < m) (h6:m≤6) (z a:Nat) (t:Int) (b:Bool):KeysOk (ur m z a t b):=by
 cases b with
 | true=>exact ⟨by rw [ur,List.length_map,List.length_range]; exact h0,by rw [ur,List.length_map,List.length_range]; exact h6,p7 _ _ fun i j hi hj e=>zjq (by rw [List.length_append]; exact Nat.le_add_left 8 _) i j (Nat.lt_of_lt_of_le hi h6) (Nat.lt_of_lt_of_le hj h6) e⟩
 | false=>exact ⟨by rw [ur,List.length_map,List.length_range]; exact h0,by rw [ur,List.length_map,List.length_range]; exact h6,p7 _ _ fun i j hi hj e=>zcm t i j (Nat.lt_of_lt_of_le hi h6) (Nat.lt_of_lt_of_le hj h6) (List.head_eq_of_cons_eq (List.append_cancel_left (List.append_cancel_right e)))⟩
theorem zoc (c:Int):KeysOk (di c):=by
 obtain ⟨h0,h1⟩:=q8 c 6 (by decide)
 exact zg1 (by omega) (by omega) _ _ _ _
noncomputable def AllA (R:V→V→Prop):List V→List V→Prop
 | [],[]=>True
 | x :: l,y :: m=>R x y∧AllA R l m
 | _,_=>False
theorem AllA.len {R:V→V→Prop}:∀ {a b:List V},AllA R a b→a.length=b.length
 | [],[],_=>rfl
 | x :: l,y :: m,h=>by simp [AllA.len h.2]
 | [],_ :: _,h=>h.elim
 | _ :: _,[],h=>h.elim
theorem AllA.get {R:V→V→Prop}:∀ {a b:List V},AllA R a b→∀ (i:Nat) (h:i < a.length) (h':i < b.length),R a[i] b[i]
 | x :: l,y :: m,h,0,_,_=>h.1
 | x :: l,y :: m,h,i + 1,h1,h2=>AllA.get h.2 i (by simpa using h1) (by simpa using h2)
 | [],_,_,_,h1,_=>by simp at h1
 | _ :: _,[],h,_,_,_=>h.elim
theorem AllA.map {α:Type}{R:V→V→Prop}{f g:α→V}:∀ (l:List α),(∀ x∈l,R (f x) (g x))→AllA R (l.map f) (l.map g)
 | [],_=>trivial
 | x :: l,h=>⟨h x (by simp),AllA.map l fun y hy=>h y (by simp [hy])⟩
theorem bg {s:MS}{a:V}{k:Bool}{l:List V} (h:zv s a=some (k,l)):zji a s=.ok (.int l.length) s:=by
 cases a with
 | tup=>cases h; rfl
 | lst=>cases h; rfl
 | ref r =>
  show (match zv s (.ref r) with | some p=>Res.ok (V.int p.2.length) s | none=>.stuck)=_
  rw [h]
 | _=>exact za h
end Mine
end
section
namespace Mine
inductive St where | here | owes | gone
 deriving DecidableEq
noncomputable def stS:St→List Nat
 | .here=>[104,101,114,101]
 | .owes=>[111,119,101,115]
 | .gone=>[103,111,110,101]
noncomputable abbrev z9:=Int×Int×Int
set_option genCtorIdx false in
structure Row where
 st:St
 turn:Int
 amt:Int
 marks:List z9
noncomputable abbrev Key:=List Nat
noncomputable abbrev ja:=List (Key×Row)
inductive Letter where
 | call (h c n:Int) (k:Key) (w:W)
 | parcel (h:Int) (k:Key) (t a:Int) (ms:List z9)
 | taken (h:Int) (k:Key) (t:Int)
 | answer (c n told:Int)
set_option genCtorIdx false in
structure LRow where
 c:Int
 n:Int
 k:Key
 w:W
 told:Int
noncomputable def qw (m:z9):V:=.tup [.int m.1,.int m.2.1,.int m.2.2]
noncomputable def vg (ms:List z9):V:=.tup (ms.map qw)
noncomputable def ar (r:Row):V:=.tup [.str (stS r.st),.int r.turn,.int r.amt,vg r.marks]
noncomputable def z4 (k:ja):List (V×V):=k.map fun p=>(.str p.1,ar p.2)
noncomputable def qp:Letter→V
 | .call h c n k w=>.tup [.str [99,97,108,108],.int h,.int c,.int n,.str k,wv w]
 | .parcel h k t a ms=>.tup [.str [112,97,114,99,101,108],.int h,.str k,.int t,.int a,vg ms]
 | .taken h k t=>.tup [.str [116,97,107,101,110],.int h,.str k,.int t]
 | .answer c n told=>.tup [.str [97,110,115,119,101,114],.int c,.int n,.int told]
noncomputable def xt (r:LRow):V:=.tup [.int r.c,.int r.n,.str r.k,wv r.w,.int r.told]
noncomputable def z7 (key:Key):ja→Option Row
 | []=>none
 | (a,r) :: l=>if a=key then some r else z7 key l
noncomputable def qt (key:Key) (x:Row):ja→ja
 | []=>[(key,x)]
 | (a,r) :: l=>if a=key then (a,x) :: l else (a,r) :: qt key x l
theorem vi (key:Key):∀ k:ja,jp (.str key) (z4 k)=(z7 key k).map ar
 | []=>rfl
 | (a,r) :: l=>by
  by_cases h:a=key
  ·rw [z7,if_pos h]; exact zg5 (decide_eq_true h)
  ·rw [z7,if_neg h]; exact (zda (a:=.str a) (k:=.str key) (decide_eq_false h)).trans (vi key l)
theorem x8 (key:Key) (x:Row):∀ k:ja,m4 (.str key) (ar x) (z4 k)=z4 (qt key x k)
 | []=>rfl
 | (a,r) :: l=>by
  by_cases h:a=key
  ·rw [qt,if_pos h]; exact zjy (decide_eq_true h)
  ·rw [qt,if_neg h]; exact (zhe (a:=.str a) (k:=.str key) (decide_eq_false h)).trans (congrArg (_ :: ·) (x8 key x l))
theorem ol (key key':Key) (x:Row):∀ k:ja,z7 key' (qt key x k)=if key'=key then some x else z7 key' k
 | []=>by
  by_cases h:key'=key
  ·subst h; rw [if_pos rfl]; exact if_pos rfl
  ·rw [if_neg h]; exact if_neg fun e=>h e.symm
 | (a,r) :: l=>by
  have ih:=ol key key' x l
  by_cases h1:a=key
  ·subst h1
   rw [qt,if_pos rfl]
   by_cases h:key'=a
   ·subst h; rw [if_pos rfl]; exact if_pos rfl
   ·rw [if_neg h,z7,z7,if_neg fun e=>h e.symm,if_neg fun e=>h e.symm]
  ·rw [qt,if_neg h1,z7]
   by_cases h2:a=key'
   ·subst h2; rw [if_pos rfl,if_neg h1,z7,if_pos rfl]
   ·rw [if_neg h2,ih,z7,if_neg h2]
theorem yf (key:Key) (x:Row):∀ (k:ja) (r:Row),z7 key k=some r→(qt key x k).map (·.1)=k.map (·.1)
 | [],_,h=>by cases h
 | (a,r') :: l,r,h=>by
  by_cases h1:a=key
  ·rw [qt,if_pos h1]; rfl
  ·rw [z7,if_neg h1] at h
   rw [qt,if_neg h1,List.map_cons,List.map_cons,yf key x l r h]
theorem zav {key:Key}{x:Row}:∀ {k:ja}{p:Key×Row},p∈qt key x k→p=(key,x)∨p∈k
 | [],p,h=>by
  rcases List.mem_cons.1 h with h | h
  ·exact .inl h
  ·cases h
 | (a,r) :: l,p,h=>by
  by_cases h1:a=key
  ·rw [qt,if_pos h1] at h
   rcases List.mem_cons.1 h with h | h
   ·rw [h1] at h; exact .inl h
   ·exact .inr (List.mem_cons_of_mem _ h)
  ·rw [qt,if_neg h1] at h
   rcases List.mem_cons.1 h with h | h
   ·exact .inr (h ▸ List.mem_cons_self ..)
   ·exact (zav h).imp id (List.mem_cons_of_mem _)
theorem vm {key:Key}:∀ {k:ja}{r:Row},z7 key k=some r→(key,r)∈k
 | [],_,h=>by cases h
 | (a,r') :: l,r,h=>by
  by_cases h1:a=key
  ·rw [z7,if_pos h1] at h; cases h; subst h1; exact List.mem_cons_self ..
  ·rw [z7,if_neg h1] at h; exact List.mem_cons_of_mem _ (vm h)
theorem lu {key:Key}:∀ {k:ja},key∈k.map (·.1)→∃ r,z7 key k=some r
 | [],h=>by cases h
 | (a,r') :: l,h=>by
  by_cases h1:a=key
  ·exact ⟨r',if_pos h1⟩
  ·rcases List.mem_cons.1 h with h | h
   ·exact (h1 h.symm).elim
   ·obtain ⟨r,hr⟩:=lu h
    exact ⟨r,(if_neg h1).trans hr⟩
noncomputable def je (c:Int):List z9→Option (Int×Int)
 | []=>none
 | m :: l=>if m.1=c then some m.2 else je c l
noncomputable def mins (x:z9):List z9→List z9
 | []=>[x]
 | m :: l=>if x.1 < m.1 then x :: m :: l else m :: mins x l
noncomputable def cy (x:z9) (ms:List z9):List z9:=mins x (ms.filter fun m=>!decide (m.1=x.1))
noncomputable def Up (a:Int):List z9→Prop
 | []=>True
 | m :: l=>a≤m.1∧m.1 < 6∧Up (m.1 + 1) l
noncomputable def MOk (ms:List z9):Prop:=Up 0 ms
theorem Up.le {a b:Int} (h:a≤b):∀ {ms:List z9},Up b ms→Up a ms
 | [],_=>trivial
 | m :: l,⟨h1,h2,h3⟩=>⟨Int.le_trans h h1,h2,h3⟩
theorem Up.len:∀ {ms:List z9}{a:Int},0≤a→a≤6→Up a ms→(ms.length:Int)≤6 - a
 | [],a,h0,h6,_=>by show (0:Int)≤_; lia
 | m :: l,a,h0,h6,⟨h1,h2,h3⟩=>by
  have:=Up.len (a:=m.1 + 1) (by lia) (by lia) h3
  rw [List.length_cons]; lia
theorem Up.filter (p:z9→Bool):∀ {ms:List z9}{a:Int},Up a ms→Up a (ms.filter p)
 | [],_,_=>trivial
 | m :: l,a,⟨h1,h2,h3⟩=>by
  rw [List.filter_cons]
  split
  ·exact ⟨h1,h2,Up.filter p h3⟩
  ·exact (Up.filter p h3).le (by lia)
theorem Up.mem:∀ {ms:List z9}{a:Int},Up a ms→∀ m∈ms,a≤m.1
 | [],_,_,m,h=>by cases h
 | x :: l,a,⟨h1,h2,h3⟩,m,h=>by
  rcases List.mem_cons.1 h with rfl | h
  ·exact h1
  ·have:=Up.mem h3 m h; lia
theorem Up.mins {x:z9}:∀ {ms:List z9}{a:Int},Up a ms→(∀ m∈ms,m.1≠x.1)→a≤x.1→x.1 < 6→Up a (mins x ms)
 | [],a,_,_,h1,h2=>⟨h1,h2,trivial⟩
 | m :: l,a,⟨g1,g2,g3⟩,hn,h1,h2=>by
  have hm:=hn m (List.mem_cons_self ..)
  rw [Mine.mins]
  split
  ·rename_i h; exact ⟨h1,h2,by lia,g2,g3⟩
  ·rename_i h; exact ⟨g1,g2,Up.mins g3 (fun y hy=>hn y (List.mem_cons_of_mem _ hy)) (by lia) h2⟩
theorem yq (ms:List z9) (c:Int):∀ m∈ms.filter fun m=>!decide (m.1=c),m.1≠c:=fun m h=>by
 have:=(List.mem_filter.1 h).2
 simpa using this
theorem MOk.put {ms:List z9} (h:MOk ms) {x:z9} (h0:0≤x.1) (h6:x.1 < 6):MOk (cy x ms) :=
 Up.mins (Up.filter _ h) (yq ms x.1) h0 h6
theorem Up.rising:∀ {ms:List z9}{a:Int},Up a ms→Mine.rising (ms.map (·.1))=true
 | [],_,_=>rfl
 | [m],_,_=>rfl
 | m :: m' :: l,a,⟨_,_,h⟩=>by
  have hr:=Up.rising h
  show (decide (m.1 < m'.1) && Mine.rising (m'.1 :: l.map (·.1)))=true
  rw [decide_eq_true (by have:=h.1; omega)]; exact hr
theorem de:∀ ms:List z9,(ms.map qw).mapM jd=some (ms.map (·.1))
 | []=>rfl
 | m :: l=>by rw [List.map_cons,List.mapM_cons,de l]; rfl
theorem zbl (L:List V):∀ (n k:Nat),k + n≤L.length→(List.range n).map (fun i=>L.getD (k + i) .none)=(L.drop k).take n:=fun n k h=>by
 refine List.ext_getElem? fun i=>?_
 by_cases hi:i < n
 ·rw [List.getElem?_map,List.getElem?_range hi,List.getElem?_take,if_pos hi,List.getElem?_drop]
  show some (L.getD (k + i) .none)=_
  rw [List.getD_eq_getElem?_getD,List.getElem?_eq_getElem (by lia)]; rfl
 ·rw [List.getElem?_eq_none (by rw [List.length_map,List.length_range]; lia),List.getElem?_take,if_neg hi]
theorem zbo (x:z9):∀ ms:List z9,x4 x.1 (ms.map (·.1))≤ms.length∧mins x ms=ms.take (x4 x.1 (ms.map (·.1))) ++ x :: ms.drop (x4 x.1 (ms.map (·.1)))
 | []=>⟨Nat.le_refl _,rfl⟩
 | m :: l=>by
  obtain ⟨h1,h2⟩:=zbo x l
  rw [List.map_cons,x4,mins]
  split
  ·exact ⟨Nat.zero_le _,rfl⟩
  ·exact ⟨Nat.succ_le_succ h1,congrArg (m :: ·) h2⟩
theorem zbe (x:z9) (ms:List z9):(y7 ms.length (x4 x.1 (ms.map (·.1)))).map (fun i=>(ms.map qw ++ [qw x]).getD i .none)=(mins x ms).map qw:=by
 obtain ⟨h1,h2⟩:=zbo x ms
 rw [h2]
 generalize x4 x.1 (ms.map (·.1))=p at h1
 have hl:(ms.map qw).length=ms.length:=List.length_map ..
 have e1:=zbl (ms.map qw ++ [qw x]) p 0 (by rw [List.length_append,hl]; lia)
 have e2:=zbl (ms.map qw ++ [qw x]) (ms.length - p) p (by rw [List.length_append,hl]; show p + _≤_ + 1; lia)
 have e3:(ms.map qw ++ [qw x]).getD ms.length .none=qw x:=by
  rw [List.getD_eq_getElem?_getD,List.getElem?_append_right (by lia),hl,Nat.sub_self]; rfl
 rw [y7,List.map_append,List.map_cons,List.map_map,e3,List.map_append,List.map_cons]
 congr 1
 ·refine Eq.trans (List.map_congr_left fun i _=>by rw [Nat.zero_add]) (e1.trans ?_)
  rw [List.drop_zero,List.take_append_of_le_length (by lia),List.map_take]
 ·congr 1
  refine e2.trans ?_
  rw [List.drop_append_of_le_length (by lia),List.take_append_of_le_length (by rw [List.length_drop]; lia),List.take_of_length_le (by rw [List.length_drop]; lia),List.map_drop]
theorem iq {ms:List z9}{x:z9} (h:Up 0 ms) (hn:∀ m∈ms,m.1≠x.1) (h0:0≤x.1) (h6:x.1 < 6):jz (ms.map qw ++ [qw x])=some ((mins x ms).map qw):=by
 have hl:((mins x ms).length:Int)≤6:=by have:=Up.len (by lia) (by lia) (Up.mins h hn h0 h6); lia
 have hlen:∀ ms:List z9,(mins x ms).length=ms.length + 1:=by
  intro ms
  induction ms with
  | nil=>rfl
  | cons m l ih=>rw [mins]; split; rfl; rw [List.length_cons,ih]; rfl
 rw [hlen] at hl
 have e:(ms.map qw ++ [qw x]).reverse=qw x :: (ms.map qw).reverse:=by rw [List.reverse_append]; rfl
 rw [jz,e]
 dsimp only
 rw [List.reverse_reverse,de]
 show (if (rising (ms.map (·.1)) && !(ms.map (·.1)).contains x.1 && decide ((ms.map qw ++ [qw x]).length≤6))=true then some ((y7 (ms.map (·.1)).length (x4 x.1 (ms.map (·.1)))).map fun i=>(ms.map qw ++ [qw x]).getD i .none) else none)=_
 rw [List.length_map,zbe,h.rising,decide_eq_true (by rw [List.length_append,List.length_map]; show ms.length + 1≤6; lia)]
 have hc:(ms.map (·.1)).contains x.1=false:=by
  cases q:(ms.map (·.1)).contains x.1 with
  | false=>rfl
  | true =>
   rw [List.contains_iff_mem] at q
   obtain ⟨m,hm,e⟩:=List.mem_map.1 q
   exact (hn m hm e).elim
 rw [hc]; rfl
set_option genCtorIdx false in
structure HS where
 num:Int
 known:ja
 written:ja
 laid:List Letter
 fresh:List LRow
noncomputable def HS.has (h:HS) (key:Key):Bool:=match z7 key h.known with
 | some r=>decide (r.st=.here)
 | none=>false
noncomputable def HS.owes (h:HS):List Key:=(h.known.filter fun p=>decide (p.2.st=.owes)).map (·.1)
noncomputable def qn (num:Int) (key:Key) (r:Row):Letter:=.parcel (1 - num) key (r.turn + 1) r.amt r.marks
noncomputable def HS.nudge (h:HS):List Letter:=(h.written.filter fun p=>decide (p.2.st=.owes)).map fun p=>qn h.num p.1 p.2
noncomputable def HS.move (h:HS) (key:Key) (r:Row):HS:={ h with known:=qt key { r with st:=.owes } h.known,laid:=h.laid ++ [qn h.num key r] }
noncomputable def HS.write (h:HS):HS:={ h with written:=h.known,laid:=[],fresh:=[] }
noncomputable def HS.sleep (h:HS):HS:={ h with known:=h.written,laid:=[],fresh:=[] }
noncomputable def HS.again (h:HS) (c n told:Int):HS:={ h with laid:=h.laid ++ [.answer c n told] }
noncomputable def HS.first (h:HS) (c n:Int) (key:Key) (w:W) (r:Row):HS :=
 { h with known:=qt key ⟨.here,r.turn,(dn r.amt w).1,cy (c,n,(dn r.amt w).2) r.marks⟩ h.known,laid:=h.laid ++ [.answer c n (dn r.amt w).2],fresh:=h.fresh ++ [⟨c,n,key,w,(dn r.amt w).2⟩] }
noncomputable def HS.called (h:HS) (c n:Int) (key:Key) (w:W) (r:Row):HS:=match je c r.marks with
 | some p=>if n < p.1 then h else if p.1=n then h.again c n p.2 else h.first c n key w r
 | none=>h.first c n key w r
noncomputable def HS.came (h:HS):Letter→HS
 | .call _ c n key w=>(match z7 key h.known with
  | some r=>if r.st=.here then h.called c n key w r else h
  | none=>h)
 | .parcel _ key t a ms=>(match z7 key h.known with
  | some r=>{ h with known:=if r.turn < t then qt key ⟨.here,t,a,ms⟩ h.known else h.known,laid:=h.laid ++ [.taken (1 - h.num) key t] }
  | none=>h)
 | .taken _ key t=>(match z7 key h.known with
  | some r=>if r.st=.owes∧t=r.turn + 1 then { h with known:=qt key ⟨.gone,r.turn,0,[]⟩ h.known } else h
  | none=>h)
 | .answer _ _ _=>h
section
variable {h:HS}{hh c n tn am:Int}{key:Key}{w:W}{r:Row}{ms:List z9}
theorem jk (hk:z7 key h.known=some r):h.came (.call hh c n key w)=if r.st=.here then h.called c n key w r else h:=by delta HS.came; dsimp only; rw [hk]
theorem jq (hk:z7 key h.known=none):h.came (.call hh c n key w)=h:=by delta HS.came; dsimp only; rw [hk]
theorem jb (hk:z7 key h.known=some r):h.came (.parcel hh key tn am ms)={ h with known:=if r.turn < tn then qt key ⟨.here,tn,am,ms⟩ h.known else h.known,laid:=h.laid ++ [.taken (1 - h.num) key tn] }:=by delta HS.came; dsimp only; rw [hk]
theorem jg (hk:z7 key h.known=none):h.came (.parcel hh key tn am ms)=h:=by delta HS.came; dsimp only; rw [hk]
theorem ji (hk:z7 key h.known=some r):h.came (.taken hh key tn)=if r.st=.owes∧tn=r.turn + 1 then { h with known:=qt key ⟨.gone,r.turn,0,[]⟩ h.known } else h:=by delta HS.came; dsimp only; rw [hk]
theorem jo (hk:z7 key h.known=none):h.came (.taken hh key tn)=h:=by delta HS.came; dsimp only; rw [hk]
end
noncomputable def HS.new (num:Int) (keys:List Key):HS :=
 let k:ja:=keys.foldl (fun k key=>qt key (if num=0 then ⟨.here,0,0,[]⟩ else ⟨.gone,-1,0,[]⟩) k) []
 ⟨num,k,k,[],[]⟩
end Mine
end
section
namespace Mine
noncomputable def f_done:Fn:=⟨2,["amount","wish"],[.ite (.cmp (.sub (.loc 1) (.int 0)) .eq (.str [115,101,116])) [.ret (some (.tup [.sub (.loc 1) (.int 1),.loc 0]))] [],.ite (.cmp (.sub (.loc 1) (.int 0)) .eq (.str [97,100,100])) [.ret (some (.tup [.bin .add (.loc 0) (.sub (.loc 1) (.int 1)),.bin .add (.loc 0) (.sub (.loc 1) (.int 1))]))] [],.ret (some (.tup [.loc 0,.loc 0]))]⟩
noncomputable def zes:List S:=[.setitem (.attr (.loc 0) 4) (.loc 3) (.tup [.str [104,101,114,101],.int 0,.int 0,.tup []]),.ite (.cmp (.loc 1) .ne (.int 0)) [.setitem (.attr (.loc 0) 4) (.loc 3) (.tup [.str [103,111,110,101],.neg (.int 1),.int 0,.tup []])] []]
noncomputable def zow:List S:=[.setattr (.loc 0) 5 (.dictC 5 (.attr (.loc 0) 4)),.setattr (.loc 0) 6 (.lstM 6 []),.setattr (.loc 0) 7 (.lstM 7 [])]
noncomputable def ub:Fn:=⟨3,["self","number","keys","key"],.setattr (.loc 0) 0 (.loc 1) :: .setattr (.loc 0) 4 (.dictM 4 [] []) :: .for_ (.inl (.loc 3)) false (.loc 2) zes :: zow⟩
noncomputable def f_House_has:Fn:=⟨2,["self","key"],[.ret (some (.and [.cmp (.loc 1) .isin (.attr (.loc 0) 4),.cmp (.sub (.sub (.attr (.loc 0) 4) (.loc 1)) (.int 0)) .eq (.str [104,101,114,101])]))]⟩
noncomputable def f_House_owes:Fn:=⟨1,["self",""],[.ret (some (.comp (some 14) 1 false (.attr (.loc 0) 4) (some (.cmp (.sub (.sub (.attr (.loc 0) 4) (.loc 1)) (.int 0)) .eq (.str [111,119,101,115]))) (.loc 1)))]⟩
noncomputable def f_House_came:Fn:=⟨2,["self","letter","one"],[.ite (.cmp (.sub (.loc 1) (.int 0)) .eq (.str [99,97,108,108])) [.ite (.meth (.loc 0) 0 [.sub (.loc 1) (.int 4)]) [.expr (.meth (.loc 0) 3 [.sub (.loc 1) (.int 2),.sub (.loc 1) (.int 3),.sub (.loc 1) (.int 4),.sub (.loc 1) (.int 5)])] []] [.ite (.cmp (.sub (.loc 1) (.int 0)) .eq (.str [112,97,114,99,101,108])) [.ite (.cmp (.sub (.loc 1) (.int 3)) .gt (.sub (.sub (.attr (.loc 0) 4) (.sub (.loc 1) (.int 2))) (.int 1))) [.setitem (.attr (.loc 0) 4) (.sub (.loc 1) (.int 2)) (.tup [.str [104,101,114,101],.sub (.loc 1) (.int 3),.sub (.loc 1) (.int 4),.sub (.loc 1) (.int 5)])] [],.expr (.bm .append (.attr (.loc 0) 6) [.tup [.str [116,97,107,101,110],.bin .sub (.int 1) (.attr (.loc 0) 0),.sub (.loc 1) (.int 2),.sub (.loc 1) (.int 3)]])] [.assign 2 (.sub (.attr (.loc 0) 4) (.sub (.loc 1) (.int 2))),.ite (.and [.cmp (.sub (.loc 2) (.int 0)) .eq (.str [111,119,101,115]),.cmp (.sub (.loc 1) (.int 3)) .eq (.bin .add (.sub (.loc 2) (.int 1)) (.int 1))]) [.setitem (.attr (.loc 0) 4) (.sub (.loc 1) (.int 2)) (.tup [.str [103,111,110,101],.sub (.loc 2) (.int 1),.int 0,.tup []])] []]]]⟩
noncomputable def zp8:List S:=[.ite (.and [.cmp (.sub (.loc 6) (.int 0)) .eq (.loc 1),.cmp (.sub (.loc 6) (.int 1)) .gt (.loc 2)]) [.ret none] [],.ite (.and [.cmp (.sub (.loc 6) (.int 0)) .eq (.loc 1),.cmp (.sub (.loc 6) (.int 1)) .eq (.loc 2)]) [.expr (.bm .append (.attr (.loc 0) 6) [.tup [.str [97,110,115,119,101,114],.loc 1,.loc 2,.sub (.loc 6) (.int 2)]]),.ret none] []]
noncomputable def zu1:List S:=[.assign 7 (.call 2 [.sub (.loc 5) (.int 2),.loc 4]),.assign 8 (.bin .add (.comp none 9 false (.sub (.loc 5) (.int 3)) (some (.cmp (.sub (.loc 9) (.int 0)) .ne (.loc 1))) (.loc 9)) (.lst [.tup [.loc 1,.loc 2,.sub (.loc 7) (.int 1)]])),.setitem (.attr (.loc 0) 4) (.loc 3) (.tup [.str [104,101,114,101],.sub (.loc 5) (.int 1),.sub (.loc 7) (.int 0),.prim .tuple1 [.prim .sorted [.loc 8]]]),.expr (.bm .append (.attr (.loc 0) 6) [.tup [.str [97,110,115,119,101,114],.loc 1,.loc 2,.sub (.loc 7) (.int 1)]]),.expr (.bm .append (.attr (.loc 0) 7) [.tup [.loc 1,.loc 2,.loc 3,.loc 4,.sub (.loc 7) (.int 1)]])]
noncomputable def yj:Fn:=⟨5,["self","caller","number","key","wish","one","mark","pair","marks",""],.assign 5 (.sub (.attr (.loc 0) 4) (.loc 3)) :: .for_ (.inl (.loc 6)) false (.sub (.loc 5) (.int 3)) zp8 :: zu1⟩
noncomputable def f_House_parcel:Fn:=⟨3,["self","key","one"],[.ret (some (.tup [.str [112,97,114,99,101,108],.bin .sub (.int 1) (.attr (.loc 0) 0),.loc 1,.bin .add (.sub (.loc 2) (.int 1)) (.int 1),.sub (.loc 2) (.int 2),.sub (.loc 2) (.int 3)]))]⟩
noncomputable def f_House_move (xc:Nat):Fn:=⟨2,["self","key","one"],[.ite (.not (.meth (.loc 0) 0 [.loc 1])) [.raise xc] [],.assign 2 (.sub (.attr (.loc 0) 4) (.loc 1)),.setitem (.attr (.loc 0) 4) (.loc 1) (.tup [.str [111,119,101,115],.sub (.loc 2) (.int 1),.sub (.loc 2) (.int 2),.sub (.loc 2) (.int 3)]),.expr (.bm .append (.attr (.loc 0) 6) [.meth (.loc 0) 4 [.loc 1,.loc 2]])]⟩
noncomputable def f_House_write:Fn:=⟨1,["self","found"],[.setattr (.loc 0) 5 (.dictC 5 (.attr (.loc 0) 4)),.assign 1 (.tup [.attr (.loc 0) 6,.attr (.loc 0) 7]),.setattr (.loc 0) 6 (.lstM 6 []),.setattr (.loc 0) 7 (.lstM 7 []),.ret (some (.loc 1))]⟩
noncomputable def f_House_sleep:Fn:=⟨1,["self"],[.setattr (.loc 0) 4 (.dictC 4 (.attr (.loc 0) 5)),.setattr (.loc 0) 6 (.lstM 6 []),.setattr (.loc 0) 7 (.lstM 7 [])]⟩
noncomputable def f_House_nudge:Fn:=⟨1,["self",""],[.ret (some (.comp none 1 false (.attr (.loc 0) 5) (some (.cmp (.sub (.sub (.attr (.loc 0) 5) (.loc 1)) (.int 0)) .eq (.str [111,119,101,115]))) (.meth (.loc 0) 4 [.loc 1,.sub (.attr (.loc 0) 5) (.loc 1)])))]⟩
set_option genCtorIdx false in
structure HouseP (P:Prog):Prop where
 done:P.fns 2=some f_done
 init:P.fns 20=some ub
 has:P.fns 21=some f_House_has
 came:P.fns 23=some f_House_came
 called:P.fns 24=some yj
 parcel:P.fns 25=some f_House_parcel
 mhas:P.meths 1 0=some 21
 mowes:P.meths 1 1=some 22
 mcame:P.meths 1 2=some 23
 mcalled:P.meths 1 3=some 24
 mparcel:P.meths 1 4=some 25
noncomputable def Fr (F:Lbl→Prop) (s s':MS):Prop:=(∀ l:Lbl,l.2 < s.cnt l.1→¬ F l→s'.heap l=s.heap l)∧∀ k,s.cnt k≤s'.cnt k
theorem Fr.refl (F:Lbl→Prop) (s:MS):Fr F s s:=⟨fun _ _ _=>rfl,fun _=>Nat.le_refl _⟩
theorem Fr.trans {F:Lbl→Prop}{s s' s'':MS} (a:Fr F s s') (b:Fr F s' s''):Fr F s s'' :=
 ⟨fun l h n=>(b.1 l (Nat.lt_of_lt_of_le h (a.2 l.1)) n).trans (a.1 l h n),fun k=>Nat.le_trans (a.2 k) (b.2 k)⟩
theorem Fr.mono {F G:Lbl→Prop}{s s':MS} (a:Fr F s s') (h:∀ l,F l→G l):Fr G s s':=⟨fun l hl n=>a.1 l hl fun q=>n (h l q),a.2⟩
theorem Fr.put {F:Lbl→Prop}{s s':MS} (a:Fr F s s') {l:Lbl} (h:F l) (o:MObj):Fr F s (s'.put l o) :=
 ⟨fun x hx n=>(zo fun (e:x=l)=>n (e.symm ▸ h)).trans (a.1 x hx n),a.2⟩
noncomputable def At1 (l:Lbl):Lbl→Prop:=fun x=>x=l
theorem at1 (l:Lbl):At1 l l:=rfl
theorem znp (s:MS) (k:Nat) (o:MObj) (j:Nat):s.cnt j≤(s.new k o).cnt j:=by
 show s.cnt j≤if j=k then s.cnt k + 1 else s.cnt j
 split
 ·rename_i e; subst e; exact Nat.le_succ _
 ·exact Nat.le_refl _
theorem uk (s:MS) (k:Nat) (o:MObj):(s.new k o).cnt k=s.cnt k + 1:=if_pos rfl
theorem Fr.new {F:Lbl→Prop}{s s':MS} (a:Fr F s s') (k:Nat) (o:MObj):Fr F s (s'.new k o) :=
 ⟨fun x hx n=>(q9 fun e=>by
   have h1:=a.2 x.1
   rw [e] at h1 hx
   exact Nat.lt_irrefl _ (Nat.lt_of_lt_of_le hx h1)).trans (a.1 x hx n),fun j=>Nat.le_trans (a.2 j) (znp s' k o j)⟩
set_option genCtorIdx false in
structure HIx where
 k:Nat
 w:Nat
 la:Nat
 fr:Nat
noncomputable def j4 (num:Int) (x:HIx):MObj:=.inst 1 [(0,.int num),(4,.ref (4,x.k)),(5,.ref (5,x.w)),(6,.ref (6,x.la)),(7,.ref (7,x.fr))]
set_option genCtorIdx false in
structure HAt (s:MS) (i:Nat) (x:HIx) (h:HS):Prop where
 o:s.heap (2,i)=some (j4 h.num x)
 k:s.heap (4,x.k)=some (.dict (z4 h.known))
 w:s.heap (5,x.w)=some (.dict (z4 h.written))
 la:s.heap (6,x.la)=some (.list (h.laid.map qp))
 fr:s.heap (7,x.fr)=some (.list (h.fresh.map xt))
 io:i < s.cnt 2
 ik:x.k < s.cnt 4
 iw:x.w < s.cnt 5
 il:x.la < s.cnt 6
 ir:x.fr < s.cnt 7
noncomputable def HF (i:Nat) (x:HIx) (l:Lbl):Prop:=l=(2,i)∨l=(4,x.k)∨l=(5,x.w)∨l=(6,x.la)∨l=(7,x.fr)
theorem HAt.step {F:Lbl→Prop}{s s':MS}{i:Nat}{x:HIx}{h:HS} (a:HAt s i x h) (f:Fr F s s') (n:∀ l,HF i x l→¬ F l):HAt s' i x h where
 o:=(f.1 _ a.io (n _ (.inl rfl))).trans a.o
 k:=(f.1 _ a.ik (n _ (.inr (.inl rfl)))).trans a.k
 w:=(f.1 _ a.iw (n _ (.inr (.inr (.inl rfl))))).trans a.w
 la:=(f.1 _ a.il (n _ (.inr (.inr (.inr (.inl rfl)))))).trans a.la
 fr:=(f.1 _ a.ir (n _ (.inr (.inr (.inr (.inr rfl)))))).trans a.fr
 io:=Nat.lt_of_lt_of_le a.io (f.2 2)
 ik:=Nat.lt_of_lt_of_le a.ik (f.2 4)
 iw:=Nat.lt_of_lt_of_le a.iw (f.2 5)
 il:=Nat.lt_of_lt_of_le a.il (f.2 6)
 ir:=Nat.lt_of_lt_of_le a.ir (f.2 7)
theorem HAt.laid {s:MS}{i:Nat}{x:HIx}{h:HS} (a:HAt s i x h) (l:List Letter):HAt (s.put (6,x.la) (.list (l.map qp))) i x { h with laid:=l } :=
 ⟨(zo (ze (by decide))).trans a.o,(zo (ze (by decide))).trans a.k,(zo (ze (by decide))).trans a.w,zm _ _ _,(zo (ze (by decide))).trans a.fr,a.io,a.ik,a.iw,a.il,a.ir⟩
theorem HAt.fresh {s:MS}{i:Nat}{x:HIx}{h:HS} (a:HAt s i x h) (l:List LRow):HAt (s.put (7,x.fr) (.list (l.map xt))) i x { h with fresh:=l } :=
 ⟨(zo (ze (by decide))).trans a.o,(zo (ze (by decide))).trans a.k,(zo (ze (by decide))).trans a.w,(zo (ze (by decide))).trans a.la,zm _ _ _,a.io,a.ik,a.iw,a.il,a.ir⟩
theorem HAt.known {s:MS}{i:Nat}{x:HIx}{h:HS} (a:HAt s i x h) (k:ja):HAt (s.put (4,x.k) (.dict (z4 k))) i x { h with known:=k } :=
 ⟨(zo (ze (by decide))).trans a.o,zm _ _ _,(zo (ze (by decide))).trans a.w,(zo (ze (by decide))).trans a.la,(zo (ze (by decide))).trans a.fr,a.io,a.ik,a.iw,a.il,a.ir⟩
theorem HAt.laid1 {s:MS}{i:Nat}{x:HIx}{h:HS} (a:HAt s i x h) (L:Letter):HAt (s.put (6,x.la) (.list (h.laid.map qp ++ [qp L]))) i x { h with laid:=h.laid ++ [L] }:=by
 have:=a.laid (h.laid ++ [L])
 rwa [List.map_append] at this
theorem HAt.fresh1 {s:MS}{i:Nat}{x:HIx}{h:HS} (a:HAt s i x h) (L:LRow):HAt (s.put (7,x.fr) (.list (h.fresh.map xt ++ [xt L]))) i x { h with fresh:=h.fresh ++ [L] }:=by
 have:=a.fresh (h.fresh ++ [L])
 rwa [List.map_append] at this
set_option genCtorIdx false in
structure HZ (h:HS):Prop where
 la:h.laid.length < 16777000
 fr:h.fresh.length < 16777000
 k:h.known.length < 1000
 w:h.written.length < 1000
noncomputable def KOk (k:ja):Prop:=∀ p∈k,MOk p.2.marks
section
variable {P:Prog} (H:HouseP P) {n i:Nat}{x:HIx}{s:MS}{h:HS}{key:Key}{r:Row}
theorem gh {α:Type}{f:α→V}{l:List α} (h:l.length < 16777000):(l.map f).length < 16777216:=by rw [List.length_map]; lia
theorem y6 {k:ja} (h:k.length < 1000):(z4 k).length < 16777216:=by rw [z4,List.length_map]; lia
theorem bs {k:ja} (h:k.length < 1000):(z4 k).length≤1000:=by rw [z4,List.length_map]; lia
theorem zl7 (st:St):decide (stS st=[104,101,114,101])=decide (st=.here):=by cases st <;> rfl
theorem g6 (st:St):decide (stS st=[111,119,101,115])=decide (st=.owes):=by cases st <;> rfl
theorem p4 (hk:z7 key h.known=some r):jp (.str key) (z4 h.known)=some (.tup [.str (stS r.st),.int r.turn,.int r.amt,vg r.marks]):=by
 rw [vi,hk]; rfl
theorem zs0 {s:MS}{l:Lbl}{d:List (V×V)} (h:s.heap l=some (.dict d)) (key:Key):cmpOp .isin (.str key) (.ref l) s=.ok (.bool (jp (.str key) d).isSome) s:=by
 have e:cmpOp.memb (.str key) (.ref l) s=some (jp (.str key) d).isSome:=by
  delta cmpOp.memb zv; dsimp only; rw [h]; rfl
 show okB s (cmpOp.memb (.str key) (.ref l) s)=_
 rw [e]; rfl
include H
theorem zl1 (n:Nat) (a:Int) (w:W) (s:MS):run P (n + 1) 2 [.int a,wv w] s=.ok (.tup [.int (dn a w).1,.int (dn a w).2]) s:=by
 refine qm (zl H.done rfl ?_)
 cases w with
 | get=>exact zt (t:=false) rfl (zi (zt (t:=false) rfl (zi (qa rfl ⟨rfl,rfl⟩))))
 | set j=>exact zt (t:=true) rfl (qa rfl ⟨rfl,rfl⟩)
 | add j=>exact zt (t:=false) rfl (zi (zt (t:=true) rfl (qa rfl ⟨rfl,rfl⟩)))
theorem wm (n:Nat) (a:HAt s i x h) (key:Key):run P (n + 1) 21 [.ref (2,i),.str key] s=.ok (.bool (h.has key)) s:=by
 refine qm (zl H.has rfl ?_)
 obtain ⟨ho,hk,-⟩:=a
 have hin:ev P (run P n) (.cmp (.loc 1) .isin (.attr (.loc 0) 4)) [some (.ref (2,i)),some (.str key)] s=.ok (.bool (jp (.str key) (z4 h.known)).isSome) s :=
  xg rfl (by (repeat' first | exact rfl | apply zu | exact qd (by assumption) rfl)) (zs0 hk key)
 rw [vi] at hin
 unfold HS.has
 cases e:z7 key h.known with
 | none =>
  rw [e] at hin
  exact qa (py hin) ⟨rfl,rfl⟩
 | some r =>
  rw [e] at hin
  have hd:=p4 e
  refine qa (yy hin (y0 (by (repeat' first | exact rfl | apply zu | apply kh | apply xg | exact qd (by assumption) rfl | exact w3 _ _ _ _ _ (by assumption) (by first | exact rfl | assumption))))) ⟨congrArg V.bool (zl7 r.st),rfl⟩
theorem fw (n:Nat) {num:Int} (ho:s.heap (2,i)=some (j4 num x)) (key:Key) (r:Row) :
  run P (n + 1) 25 [.ref (2,i),.str key,.tup [.str (stS r.st),.int r.turn,.int r.amt,vg r.marks]] s=.ok (qp (qn num key r)) s:=by
 refine qm (zl H.parcel rfl ?_)
 exact qa (by (repeat' first | exact rfl | apply zu | apply vp | apply ff | apply z5 | exact qd (by assumption) rfl)) ⟨rfl,rfl⟩
omit H
noncomputable def wf (c:Int) (ms:List z9):List z9:=ms.filter fun m=>!decide (m.1=c)
noncomputable def zou (c:Int) (m:V):Bool:=match m with | .tup [.int a,_,_]=>!decide (a=c) | _=>false
theorem gz (c:Int):∀ ms:List z9,(ms.map qw).filter (zou c)=(wf c ms).map qw
 | []=>rfl
 | m :: l=>by
  rw [wf,List.map_cons,List.filter_cons,List.filter_cons]
  show (if (!decide (m.1=c))=true then _ else _)=_
  rw [gz c l,wf]
  split <;> rfl
theorem xh {α:Type}{f:α→V}{l:List α}{v:V} (h:v∈l.map f):∃ a,a∈l∧v=f a:=by
 obtain ⟨a,h1,h2⟩:=List.mem_map.1 h
 exact ⟨a,h1,h2.symm⟩
theorem zsw {ms:List z9} (h:MOk ms):ms.length≤6:=by have:=Up.len (by lia) (by lia) h; lia
theorem au {ms:List z9}{c n t:Int}{s:MS} (h:MOk ms) (h0:0≤c) (h6:c < 6) :
  prim .sorted [.lst ((wf c ms).map qw ++ [.tup [.int c,.int n,.int t]])] s=.ok (.lst ((cy (c,n,t) ms).map qw)) s:=by
 have e:jz ((wf c ms).map qw ++ [V.tup [.int c,.int n,.int t]])=some ((cy (c,n,t) ms).map qw):=iq (x:=(c,n,t)) (Up.filter _ h) (yq ms c) h0 h6
 show (match jz ((wf c ms).map qw ++ [V.tup [.int c,.int n,.int t]]) with | some m=>Res.ok (V.lst m) s | none=>.stuck)=_
 rw [e]
noncomputable def MI (c n:Int) (all rem:List z9):Prop:=je c all=je c rem∨(∃ p,je c all=some p∧p.1 < n∧∀ x∈rem,x.1≠c)
theorem MI.next {c n:Int}{all rem:List z9}{m:z9} (h:MI c n all (m :: rem)) (hc:m.1≠c):MI c n all rem:=by
 rcases h with h | ⟨p,h1,h2,h3⟩
 ·rw [je,if_neg hc] at h; exact .inl h
 ·exact .inr ⟨p,h1,h2,fun x hx=>h3 x (List.mem_cons_of_mem _ hx)⟩
theorem MI.here {c n:Int}{all rem:List z9}{m:z9} (h:MI c n all (m :: rem)) (hc:m.1=c):je c all=some m.2:=by
 rcases h with h | ⟨p,h1,h2,h3⟩
 ·rw [je,if_pos hc] at h; exact h
 ·exact (h3 m (List.mem_cons_self ..) hc).elim
theorem zma {c a:Int}{m:z9}{rem:List z9} (h:Up a (m :: rem)) (hc:m.1=c):∀ x∈rem,x.1≠c:=fun x hx e=>by
 have:=Up.mem h.2.2 x hx; lia
include H
omit H
theorem zca {c n:Int}{w:W}{p:Int×Int} (e:je c r.marks=some p) (hn:n < p.1):h.called c n key w r=h:=by
 delta HS.called; rw [e]; exact if_pos hn
theorem zbm {c n:Int}{w:W}{p:Int×Int} (e:je c r.marks=some p) (hn:p.1=n):h.called c n key w r=h.again c n p.2:=by
 delta HS.called; rw [e]; exact (if_neg (by omega)).trans (if_pos hn)
theorem zdj {c n:Int}{w:W} (e:MI c n r.marks []):h.called c n key w r=h.first c n key w r:=by
 delta HS.called
 rcases e with e | ⟨p,e,q,-⟩
 ·rw [e]; rfl
 ·rw [e]; exact (if_neg (by omega)).trans (if_neg (by omega))
theorem MI.more {c n:Int}{all rem:List z9}{m:z9}{b:Int} (h:MI c n all (m :: rem)) (u:Up b (m :: rem)) (k:m.1=c→m.2.1 < n):MI c n all rem:=by
 by_cases hc:m.1=c
 ·exact .inr ⟨_,h.here hc,k hc,zma u hc⟩
 ·exact h.next hc
theorem zkp {C:Calls}{a b:E}{l:Loc}{s:MS}{q:Lbl}{xs:List V}{v:V} (h1:ev P C a l s=.ok (.ref q) s) (h2:s.heap q=some (.list xs)) (h3:ev P C b l s=.ok v s) (h4:xs.length < 16777216):ev P C (.bm .append a [b]) l s=.ok .none (s.put q (.list (xs ++ [v]))) :=
 p3 h1 (xr h2) (z5 h3 rfl) (kb _ _ _ _ h2 h4)
noncomputable def zah (i:Nat) (c num:Int) (key:Key) (w:W) (r:Row) (y:Option V):Loc:=[some (.ref (2,i)),some (.int c),some (.int num),some (.str key),some (wv w),some (.tup [.str (stS r.st),.int r.turn,.int r.amt,vg r.marks]),y,none,none,none]
theorem en {C:Calls}{Q:Fl×Loc→MS→Prop}{m:z9}{c num:Int}{w:W} (a:HAt s i x h) (hl:(h.laid.map qp).length < 16777216)
  (k1:m.1=c→num < m.2.1→Q (.ret .none,zah i c num key w r (some (qw m))) s)
  (k2:m.1=c→m.2.1=num→Q (.ret .none,zah i c num key w r (some (qw m))) (s.put (6,x.la) (.list (h.laid.map qp ++ [qp (.answer c num m.2.2)]))))
  (k3:(m.1=c→m.2.1 < num)→Q (.next,zah i c num key w r (some (qw m))) s) :
  OkR (exs P C n zp8 (zah i c num key w r (some (qw m))) s) Q:=by
 have hb:∀ {b t:Bool},b=t→Res.ok (V.bool b) s=.ok (V.bool t) s:=fun e=>e ▸ rfl
 by_cases hc:m.1=c
 ·have h1:=hb (decide_eq_true hc)
  by_cases hgt:num < m.2.1
  ·exact zt (t:=true) (yy h1 (y0 (hb (decide_eq_true hgt)))) (rj (k1 hc hgt))
  ·refine zt (t:=false) (yy h1 (y0 (hb (decide_eq_false hgt)))) (zi ?_)
   by_cases heq:m.2.1=num
   ·exact zt (t:=true) (yy h1 (y0 (hb (decide_eq_true heq)))) (qc (zkp (zu rfl (qd a.o rfl)) a.la rfl hl) (rj (k2 hc heq)))
   ·exact zt (t:=false) (yy h1 (y0 (hb (decide_eq_false heq)))) (zi (zz (k3 fun _=>by omega)))
 ·have h1:=hb (decide_eq_false hc)
  exact zt (t:=false) (py h1) (zi (zt (t:=false) (py h1) (zi (zz (k3 fun h=>(hc h).elim)))))
noncomputable def zw9 (c num:Int) (r:Row) (s:MS) (rm:List z9) (_:Option V) (t:MS):Prop:=s=t∧MI c num r.marks rm∧∃ b,Up b rm
theorem za4 {C:Calls}{Q:Fl×Loc→MS→Prop}{c num:Int}{w:W} (a:HAt s i x h) (hl:(h.laid.map qp).length < 16777216) (hm:MOk r.marks)
  (kr:∀ l t,HAt t i x (h.called c num key w r)→Fr (HF i x) s t→Q (.ret .none,l) t) (kn:∀ y,h.called c num key w r=h.first c num key w r→Q (.next,zah i c num key w r y) s) :
  OkR (jc s false (vg r.marks) (u0 P C (.inl (.loc 6))) (exs P C n zp8) (r.marks.map qw) (zah i c num key w r none) s) Q :=
 ku qw (zah i c num key w r) (zw9 c num r s) (fun m rm y t ⟨e,e1,b,e2⟩=>e ▸ ⟨rfl,en a hl
   (fun hc hn=>kr _ _ (by rw [zca (e1.here hc) hn]; exact a) (.refl _ _))
   (fun hc hn=>kr _ _ (by rw [zbm (e1.here hc) hn]; exact a.laid1 (.answer c num m.2.2)) ((Fr.refl _ _).put (.inr (.inr (.inr (.inl rfl)))) _))
   fun hn=>⟨_,rfl,rfl,e1.more e2 hn,_,e2.2.2⟩⟩)
  (fun y t e=>e.1 ▸ ⟨rfl,kn y (zdj e.2.1)⟩) _ _ _ ⟨rfl,.inl rfl,_,hm⟩
theorem zgg {C:Calls}{c:Int}{ms:List z9}{a0 a2 a3 a4 a6 a7 a8 a9:Option V}{b0 b1 b2:V} (hm:MOk ms) :
  ev P C (.comp none 9 false (.sub (.loc 5) (.int 3)) (some (.cmp (.sub (.loc 9) (.int 0)) .ne (.loc 1))) (.loc 9)) [a0,some (.int c),a2,a3,a4,some (.tup [b0,b1,b2,vg ms]),a6,a7,a8,a9] s=.ok (.lst ((wf c ms).map qw)) s:=by
 have hl:(0:Nat) + (ms.map qw).length≤zf:=by rw [List.length_map,Nat.zero_add]; exact Nat.le_trans (zsw hm) (by decide)
 refine wl (src:=vg ms) (xs:=ms.map qw) rfl rfl ?_
 rw [← gz]
 refine (ww s s false (vg ms) 9 _ _ _ (zou c) id rfl (ms.map qw) [] (fun v hv=>?_) (fun v hv _=>rfl) hl).trans (by rw [List.map_id]; rfl)
 obtain ⟨m,-,rfl⟩:=xh hv
 rfl
theorem zc4 {c:Int}{ms:List z9} (hm:MOk ms):((wf c ms).map qw).length + 1≤16777216:=by
 rw [List.length_map,wf]
 exact Nat.succ_le_succ (Nat.le_trans (List.length_filter_le _ _) (Nat.le_trans (zsw hm) (by decide)))
include H
theorem za9 (n:Nat) (a:HAt s i x h) (z:HZ h) (hm:MOk r.marks) {c num:Int} (h0:0≤c) (h6:c < 6) {w:W}{y:Option V}{Q:Fl×Loc→MS→Prop} (k:∀ l t,HAt t i x (h.first c num key w r)→Fr (HF i x) s t→Q (.next,l) t) :
  OkR (exs P (run P (n + 1)) (n + 1) zu1 (zah i c num key w r y) s) Q:=by
 refine zn (jt (z5 rfl (z5 rfl rfl)) (zl1 H n r.amt w s)) rfl ?_
 refine zn (vp (zgg hm) rfl (zuj _ _ _ (zc4 hm))) rfl ?_
 refine vf (v:=ar ⟨.here,r.turn,(dn r.amt w).1,cy (c,num,(dn r.amt w).2) r.marks⟩) (ff (z5 rfl (z5 (v:=.int r.turn) rfl (z5 (v:=.int (dn r.amt w).1) rfl (z5 (yn (z5 (yn (z5 rfl rfl) (au hm h0 h6)) rfl) rfl) rfl)))) rfl) (zu rfl (qd a.o rfl)) rfl (xn _ _ _ _ _ a.k (y6 z.k)) ?_
 rw [x8]
 have a1:=a.known (qt key ⟨.here,r.turn,(dn r.amt w).1,cy (c,num,(dn r.amt w).2) r.marks⟩ h.known)
 have a2:=a1.laid1 (.answer c num (dn r.amt w).2)
 refine qc (zkp (zu rfl (qd a1.o rfl)) a1.la rfl (gh z.la)) (qc (zkp (zu rfl (qd a2.o rfl)) a2.fr rfl (gh z.fr)) (zz (k _ _ (a2.fresh1 ⟨c,num,key,w,(dn r.amt w).2⟩) ((((Fr.refl (HF i x) s).put (.inr (.inl rfl)) _).put (.inr (.inr (.inr (.inl rfl)))) _).put (.inr (.inr (.inr (.inr rfl)))) _))))
theorem zdb (n:Nat) (a:HAt s i x h) (z:HZ h) (hk:z7 key h.known=some r) (hm:MOk r.marks) {c num:Int} (h0:0≤c) (h6:c < 6) (w:W) :
  OkR (run P (n + 2) 24 [.ref (2,i),.int c,.int num,.str key,wv w] s) fun v s'=>v=.none∧HAt s' i x (h.called c num key w r)∧Fr (HF i x) s s' :=
 zl H.called rfl (zn (kh (zu rfl (qd a.o rfl)) rfl (w3 _ _ _ _ _ a.k (p4 hk))) rfl (vx rfl rfl rfl (za4 a (gh z.la) hm (fun l t b f=>⟨rfl,b,f⟩) fun y e=>za9 H n a z hm h0 h6 fun l t b f=>⟨rfl,by rw [e]; exact b,f⟩)))
noncomputable def LOk (h:HS):Letter→Prop
 | .call _ c _ key _=>0≤c∧c < 6∧∃ r,z7 key h.known=some r
 | .parcel _ key _ _ _=>∃ r,z7 key h.known=some r
 | .taken _ key _=>∃ r,z7 key h.known=some r
 | .answer _ _ _=>False
theorem zi6 (n:Nat) (a:HAt s i x h) (z:HZ h) (km:KOk h.known) (L:Letter) (hL:LOk h L) :
  OkR (run P (n + 3) 23 [.ref (2,i),qp L] s) fun v s'=>v=.none∧HAt s' i x (h.came L)∧Fr (HF i x) s s':=by
 have ho:=a.o
 have hkn:=a.k
 have hla:=a.la
 have hll:=gh (f:=qp) z.la
 have hks:=y6 z.k
 have hm0:=H.mhas
 have hm3:=H.mcalled
 refine zl H.came rfl ?_
 cases L with
 | answer=>exact hL.elim
 | call hh c num key w =>
  obtain ⟨h0,h6,r,hk⟩:=hL
  have hv:=wm H (n + 1) a key
  refine zt (t:=true) rfl ?_
  have hhas:h.has key=decide (r.st=.here):=by rw [HS.has,hk]
  rw [hhas] at hv
  have e:h.came (.call hh c num key w)=if r.st=.here then h.called c num key w r else h:=jk hk
  rw [e]
  by_cases hs:r.st=.here
  ·rw [decide_eq_true hs] at hv
   rw [if_pos hs]
   refine zt (t:=true) (by (repeat' first | exact rfl | apply zr | exact (zg (by assumption)).trans (by assumption) | assumption)) (j3 (jn rfl ((zg ho).trans hm3) rfl (zdb H n a z hk (km _ (vm hk)) h0 h6 w)) ?_)
   rintro v s' ⟨rfl,h1,h2⟩
   exact zi (zi (zz ⟨rfl,h1,h2⟩))
  ·rw [decide_eq_false hs] at hv
   rw [if_neg hs]
   exact zt (t:=false) (by (repeat' first | exact rfl | apply zr | exact (zg (by assumption)).trans (by assumption) | assumption)) (zi (zi (zz ⟨rfl,a,.refl _ _⟩)))
 | parcel hh key tn am ms =>
  obtain ⟨r,hk⟩:=hL
  have hd:=p4 hk
  refine zt (t:=false) rfl (zt (t:=true) rfl ?_)
  have e:h.came (.parcel hh key tn am ms)={ h with known:=if r.turn < tn then qt key ⟨.here,tn,am,ms⟩ h.known else h.known,laid:=h.laid ++ [.taken (1 - h.num) key tn] }:=jb hk
  rw [e]
  have fin:∀ (k:ja) (t:MS) (Q:Fl×Loc→MS→Prop),HAt t i x { h with known:=k }→Fr (HF i x) s t→(∀ l s',HAt s' i x { h with known:=k,laid:=h.laid ++ [.taken (1 - h.num) key tn] }→Fr (HF i x) s s'→Q (.next,l) s') →
    OkR (exs P (run P (n + 2)) (n + 2) [.expr (.bm .append (.attr (.loc 0) 6) [.tup [.str [116,97,107,101,110],.bin .sub (.int 1) (.attr (.loc 0) 0),.sub (.loc 1) (.int 2),.sub (.loc 1) (.int 3)]])] [some (.ref (2,i)),some (qp (.parcel hh key tn am ms)),none] t) Q:=by
   intro k t Q a1 f1 hQ
   have ho1:=a1.o
   have hla1:=a1.la
   exact qc (v:=.none) (s':=t.put (6,x.la) (.list (h.laid.map qp ++ [qp (.taken (1 - h.num) key tn)]))) (by (repeat' first | exact rfl | apply zu | apply vp | apply ff | apply p3 | apply z5 | exact qd (by assumption) rfl | exact xr (by assumption) | exact kb _ _ _ _ (by assumption) (by assumption))) (zz (hQ _ _ (a1.laid1 (.taken (1 - h.num) key tn)) (f1.put (.inr (.inr (.inr (.inl rfl)))) _)))
  by_cases hs:r.turn < tn
  ·rw [if_pos hs]
   refine zt (t:=true) ((show _=Res.ok (V.bool (decide (r.turn < tn))) s by (repeat' first | exact rfl | apply zu | apply kh | apply xg | exact qd (by assumption) rfl | exact w3 _ _ _ _ _ (by assumption) (by first | exact rfl | assumption))).trans (congrArg (fun q=>Res.ok (V.bool q) s) (decide_eq_true hs))) (vf (v:=ar ⟨.here,tn,am,ms⟩) rfl (by (repeat' first | exact rfl | apply zu | exact qd (by assumption) rfl)) rfl (xn _ _ _ _ _ hkn hks) ?_)
   rw [x8]
   exact zi (fin _ _ _ (a.known _) ((Fr.refl _ _).put (.inr (.inl rfl)) _) fun l s' q1 q2=>⟨rfl,q1,q2⟩)
  ·rw [if_neg hs]
   refine zt (t:=false) ((show _=Res.ok (V.bool (decide (r.turn < tn))) s by (repeat' first | exact rfl | apply zu | apply kh | apply xg | exact qd (by assumption) rfl | exact w3 _ _ _ _ _ (by assumption) (by first | exact rfl | assumption))).trans (congrArg (fun q=>Res.ok (V.bool q) s) (decide_eq_false hs))) (zi ?_)
   exact fin _ _ _ a (.refl _ _) fun l s' q1 q2=>⟨rfl,q1,q2⟩
 | taken hh key tn =>
  obtain ⟨r,hk⟩:=hL
  have hd:=p4 hk
  refine zt (t:=false) rfl (zt (t:=false) rfl (zn (by (repeat' first | exact rfl | apply zu | apply kh | exact qd (by assumption) rfl | exact w3 _ _ _ _ _ (by assumption) (by first | exact rfl | assumption))) rfl ?_))
  have e:h.came (.taken hh key tn)=if r.st=.owes∧tn=r.turn + 1 then { h with known:=qt key ⟨.gone,r.turn,0,[]⟩ h.known } else h:=ji hk
  rw [e]
  by_cases hs:r.st=.owes
  ·by_cases ht:tn=r.turn + 1
   ·rw [if_pos ⟨hs,ht⟩]
    refine zt (t:=true) (yy (congrArg (fun q=>Res.ok (V.bool q) s) ((g6 r.st).trans (decide_eq_true hs))) (y0 (congrArg (fun q=>Res.ok (V.bool q) s) (decide_eq_true ht)))) (vf (v:=ar ⟨.gone,r.turn,0,[]⟩) rfl (by (repeat' first | exact rfl | apply zu | exact qd (by assumption) rfl)) rfl (xn _ _ _ _ _ hkn hks) ?_)
    rw [x8]
    exact zi (zi (zi (zz ⟨rfl,a.known _,(Fr.refl _ _).put (.inr (.inl rfl)) _⟩)))
   ·rw [if_neg fun q=>ht q.2]
    exact zt (t:=false) (yy (congrArg (fun q=>Res.ok (V.bool q) s) ((g6 r.st).trans (decide_eq_true hs))) (y0 (congrArg (fun q=>Res.ok (V.bool q) s) (decide_eq_false ht)))) (zi (zi (zi (zz ⟨rfl,a,.refl _ _⟩))))
  ·rw [if_neg fun q=>hs q.1]
   exact zt (t:=false) (py (congrArg (fun q=>Res.ok (V.bool q) s) ((g6 r.st).trans (decide_eq_false hs)))) (zi (zi (zi (zz ⟨rfl,a,.refl _ _⟩))))
theorem zlu {xc:Nat} (hf:P.fns 26=some (f_House_move xc)) (n:Nat) (a:HAt s i x h) (z:HZ h) (hk:z7 key h.known=some r) (hs:r.st=.here) :
  OkR (run P (n + 2) 26 [.ref (2,i),.str key] s) fun v s'=>v=.none∧HAt s' i x (h.move key r)∧Fr (HF i x) s s':=by
 have ho:=a.o
 have hkn:=a.k
 have hd:=p4 hk
 have hll:=gh (f:=qp) z.la
 have hks:=y6 z.k
 have hm0:=H.mhas
 have hm4:=H.mparcel
 have hh:=wm H n a key
 have hhas:h.has key=true:=by rw [HS.has,hk]; exact decide_eq_true hs
 rw [hhas] at hh
 refine zl hf rfl ?_
 refine zt (t:=false) (s':=s) (kq (t:=true) (by (repeat' first | exact rfl | apply zr | exact (zg (by assumption)).trans (by assumption) | assumption))) (zi (zn (by (repeat' first | exact rfl | apply zu | apply kh | exact qd (by assumption) rfl | exact w3 _ _ _ _ _ (by assumption) (by first | exact rfl | assumption))) rfl (vf (v:=ar { r with st:=.owes }) rfl (by (repeat' first | exact rfl | apply zu | exact qd (by assumption) rfl)) rfl (xn _ _ _ _ _ hkn hks) ?_)))
 rw [x8]
 have a1:=a.known (qt key { r with st:=.owes } h.known)
 have f1:Fr (HF i x) s _:=(Fr.refl (HF i x) s).put (.inr (.inl rfl)) (.dict (z4 (qt key { r with st:=.owes } h.known)))
 generalize s.put (4,x.k) (.dict (z4 (qt key { r with st:=.owes } h.known)))=t1 at a1 f1
 have ho1:=a1.o
 have hla1:=a1.la
 have hp:=fw H n ho1 key r
 exact qc (v:=.none) (s':=t1.put (6,x.la) (.list (h.laid.map qp ++ [qp (qn h.num key r)]))) (by (repeat' first | exact rfl | apply zu | apply zr | apply p3 | apply z5 | exact qd (by assumption) rfl | exact (zg (by assumption)).trans (by assumption) | exact xr (by assumption) | exact kb _ _ _ _ (by assumption) (by assumption) | assumption)) (zz ⟨rfl,a1.laid1 (qn h.num key r),f1.put (.inr (.inr (.inr (.inl rfl)))) _⟩)
noncomputable def HIx.fresh (x:HIx) (s:MS):Prop:=s.cnt 4≤x.k∧s.cnt 5≤x.w∧s.cnt 6≤x.la∧s.cnt 7≤x.fr
theorem zgn (hf:P.fns 27=some f_House_write) (n:Nat) (a:HAt s i x h) (z:HZ h) :
  OkR (run P (n + 1) 27 [.ref (2,i)] s) fun v s'=>v=.tup [.ref (6,x.la),.ref (7,x.fr)]∧HAt s' i ⟨x.k,s.cnt 5,s.cnt 6,s.cnt 7⟩ h.write∧Fr (At1 (2,i)) s s':=by
 have ho:=a.o
 have hkn:=a.k
 have hkz:=bs z.k
 refine zl hf rfl ?_
 have h1:(s.new 5 (.dict (z4 h.known))).heap (2,i)=some (j4 h.num x):=by (repeat' first | assumption | exact zm _ _ _ | exact zy _ _ _ | refine (zo (ze (by decide))).trans ?_ | refine (q9 (ze (by decide))).trans ?_)
 refine z8 (s':=(s.new 5 (.dict (z4 h.known))).put (2,i) (j4 h.num ⟨x.k,s.cnt 5,x.la,x.fr⟩)) (by (repeat' first | exact rfl | apply zu | apply aq | exact qd (by assumption) rfl | assumption)) rfl (xj 5 _ h1 rfl) ?_
 have f1:Fr (At1 (2,i)) s ((s.new 5 (.dict (z4 h.known))).put (2,i) (j4 h.num ⟨x.k,s.cnt 5,x.la,x.fr⟩)):=((Fr.refl _ _).new _ _).put (at1 _) _
 have h2:((s.new 5 (.dict (z4 h.known))).put (2,i) (j4 h.num ⟨x.k,s.cnt 5,x.la,x.fr⟩)).heap (2,i)=some (j4 h.num ⟨x.k,s.cnt 5,x.la,x.fr⟩):=zm _ _ _
 have w2:((s.new 5 (.dict (z4 h.known))).put (2,i) (j4 h.num ⟨x.k,s.cnt 5,x.la,x.fr⟩)).heap (5,s.cnt 5)=some (.dict (z4 h.known)):=by (repeat' first | assumption | exact zm _ _ _ | exact zy _ _ _ | refine (zo (ze (by decide))).trans ?_ | refine (q9 (ze (by decide))).trans ?_)
 have c5:((s.new 5 (.dict (z4 h.known))).put (2,i) (j4 h.num ⟨x.k,s.cnt 5,x.la,x.fr⟩)).cnt 5=s.cnt 5 + 1:=rfl
 have c6:((s.new 5 (.dict (z4 h.known))).put (2,i) (j4 h.num ⟨x.k,s.cnt 5,x.la,x.fr⟩)).cnt 6=s.cnt 6:=rfl
 have c7:((s.new 5 (.dict (z4 h.known))).put (2,i) (j4 h.num ⟨x.k,s.cnt 5,x.la,x.fr⟩)).cnt 7=s.cnt 7:=rfl
 generalize (s.new 5 (.dict (z4 h.known))).put (2,i) (j4 h.num ⟨x.k,s.cnt 5,x.la,x.fr⟩)=t at f1 h2 w2 c5 c6 c7
 refine zn (v:=.tup [.ref (6,x.la),.ref (7,x.fr)]) (s':=t) (by (repeat' first | exact rfl | apply zu | apply ff | apply z5 | exact qd (by assumption) rfl)) rfl ?_
 have h3:(t.new 6 (.list [])).heap (2,i)=some (j4 h.num ⟨x.k,s.cnt 5,x.la,x.fr⟩):=by (repeat' first | assumption | exact zm _ _ _ | exact zy _ _ _ | refine (zo (ze (by decide))).trans ?_ | refine (q9 (ze (by decide))).trans ?_)
 refine z8 (v:=.ref (6,t.cnt 6)) (s':=(t.new 6 (.list [])).put (2,i) (j4 h.num ⟨x.k,s.cnt 5,t.cnt 6,x.fr⟩)) rfl rfl (xj 6 _ h3 rfl) ?_
 have h4:(((t.new 6 (.list [])).put (2,i) (j4 h.num ⟨x.k,s.cnt 5,t.cnt 6,x.fr⟩)).new 7 (.list [])).heap (2,i)=some (j4 h.num ⟨x.k,s.cnt 5,t.cnt 6,x.fr⟩):=by (repeat' first | assumption | exact zm _ _ _ | exact zy _ _ _ | refine (zo (ze (by decide))).trans ?_ | refine (q9 (ze (by decide))).trans ?_)
 refine z8 (v:=.ref (7,t.cnt 7)) (s':=(((t.new 6 (.list [])).put (2,i) (j4 h.num ⟨x.k,s.cnt 5,t.cnt 6,x.fr⟩)).new 7 (.list [])).put (2,i) (j4 h.num ⟨x.k,s.cnt 5,t.cnt 6,t.cnt 7⟩)) rfl rfl (xj 7 _ h4 rfl) ?_
 have f2:=(((f1.new 6 (.list [])).put (at1 _) (j4 h.num ⟨x.k,s.cnt 5,t.cnt 6,x.fr⟩)).new 7 (.list [])).put (at1 _) (j4 h.num ⟨x.k,s.cnt 5,t.cnt 6,t.cnt 7⟩)
 refine qa (v:=.tup [.ref (6,x.la),.ref (7,x.fr)]) rfl ⟨rfl,?_,f2⟩
 have hk':=(f2.1 (4,x.k) a.ik (ze (by decide))).trans a.k
 rw [c6,c7] at hk' f2 ⊢
 refine ⟨zm _ _ _,hk',by (repeat' first | assumption | exact zm _ _ _ | exact zy _ _ _ | refine (zo (ze (by decide))).trans ?_ | refine (q9 (ze (by decide))).trans ?_),?_,?_,Nat.lt_of_lt_of_le a.io (f2.2 2),Nat.lt_of_lt_of_le a.ik (f2.2 4),?_,?_,?_⟩
 ·rw [← c6]; (repeat' first | assumption | exact zm _ _ _ | exact zy _ _ _ | refine (zo (ze (by decide))).trans ?_ | refine (q9 (ze (by decide))).trans ?_)
 ·rw [← c7]; exact (zo (ze (by decide))).trans (zy _ 7 _)
 ·show s.cnt 5 < t.cnt 5; rw [c5]; exact Nat.lt_succ_self _
 ·show s.cnt 6 < t.cnt 6 + 1; rw [c6]; exact Nat.lt_succ_self _
 ·show s.cnt 7 < t.cnt 7 + 1; rw [c7]; exact Nat.lt_succ_self _
theorem zgp (hf:P.fns 28=some f_House_sleep) (n:Nat) (a:HAt s i x h) (z:HZ h) :
  OkR (run P (n + 1) 28 [.ref (2,i)] s) fun v s'=>v=.none∧HAt s' i ⟨s.cnt 4,x.w,s.cnt 6,s.cnt 7⟩ h.sleep∧Fr (At1 (2,i)) s s':=by
 have ho:=a.o
 have hwn:=a.w
 have hwz:=bs z.w
 refine zl hf rfl ?_
 have h1:(s.new 4 (.dict (z4 h.written))).heap (2,i)=some (j4 h.num x):=by (repeat' first | assumption | exact zm _ _ _ | exact zy _ _ _ | refine (zo (ze (by decide))).trans ?_ | refine (q9 (ze (by decide))).trans ?_)
 refine z8 (s':=(s.new 4 (.dict (z4 h.written))).put (2,i) (j4 h.num ⟨s.cnt 4,x.w,x.la,x.fr⟩)) (by (repeat' first | exact rfl | apply zu | apply aq | exact qd (by assumption) rfl | assumption)) rfl (xj 4 _ h1 rfl) ?_
 have f1:Fr (At1 (2,i)) s ((s.new 4 (.dict (z4 h.written))).put (2,i) (j4 h.num ⟨s.cnt 4,x.w,x.la,x.fr⟩)):=((Fr.refl _ _).new _ _).put (at1 _) _
 have h2:((s.new 4 (.dict (z4 h.written))).put (2,i) (j4 h.num ⟨s.cnt 4,x.w,x.la,x.fr⟩)).heap (2,i)=some (j4 h.num ⟨s.cnt 4,x.w,x.la,x.fr⟩):=zm _ _ _
 have w2:((s.new 4 (.dict (z4 h.written))).put (2,i) (j4 h.num ⟨s.cnt 4,x.w,x.la,x.fr⟩)).heap (4,s.cnt 4)=some (.dict (z4 h.written)):=by (repeat' first | assumption | exact zm _ _ _ | exact zy _ _ _ | refine (zo (ze (by decide))).trans ?_ | refine (q9 (ze (by decide))).trans ?_)
 have c4:((s.new 4 (.dict (z4 h.written))).put (2,i) (j4 h.num ⟨s.cnt 4,x.w,x.la,x.fr⟩)).cnt 4=s.cnt 4 + 1:=rfl
 have c6:((s.new 4 (.dict (z4 h.written))).put (2,i) (j4 h.num ⟨s.cnt 4,x.w,x.la,x.fr⟩)).cnt 6=s.cnt 6:=rfl
 have c7:((s.new 4 (.dict (z4 h.written))).put (2,i) (j4 h.num ⟨s.cnt 4,x.w,x.la,x.fr⟩)).cnt 7=s.cnt 7:=rfl
 generalize (s.new 4 (.dict (z4 h.written))).put (2,i) (j4 h.num ⟨s.cnt 4,x.w,x.la,x.fr⟩)=t at f1 h2 w2 c4 c6 c7
 have h3:(t.new 6 (.list [])).heap (2,i)=some (j4 h.num ⟨s.cnt 4,x.w,x.la,x.fr⟩):=by (repeat' first | assumption | exact zm _ _ _ | exact zy _ _ _ | refine (zo (ze (by decide))).trans ?_ | refine (q9 (ze (by decide))).trans ?_)
 refine z8 (v:=.ref (6,t.cnt 6)) (s':=(t.new 6 (.list [])).put (2,i) (j4 h.num ⟨s.cnt 4,x.w,t.cnt 6,x.fr⟩)) rfl rfl (xj 6 _ h3 rfl) ?_
 have h4:(((t.new 6 (.list [])).put (2,i) (j4 h.num ⟨s.cnt 4,x.w,t.cnt 6,x.fr⟩)).new 7 (.list [])).heap (2,i)=some (j4 h.num ⟨s.cnt 4,x.w,t.cnt 6,x.fr⟩):=by (repeat' first | assumption | exact zm _ _ _ | exact zy _ _ _ | refine (zo (ze (by decide))).trans ?_ | refine (q9 (ze (by decide))).trans ?_)
 refine z8 (v:=.ref (7,t.cnt 7)) (s':=(((t.new 6 (.list [])).put (2,i) (j4 h.num ⟨s.cnt 4,x.w,t.cnt 6,x.fr⟩)).new 7 (.list [])).put (2,i) (j4 h.num ⟨s.cnt 4,x.w,t.cnt 6,t.cnt 7⟩)) rfl rfl (xj 7 _ h4 rfl) ?_
 have f2:=(((f1.new 6 (.list [])).put (at1 _) (j4 h.num ⟨s.cnt 4,x.w,t.cnt 6,x.fr⟩)).new 7 (.list [])).put (at1 _) (j4 h.num ⟨s.cnt 4,x.w,t.cnt 6,t.cnt 7⟩)
 refine zz ⟨rfl,?_,f2⟩
 have hw':=(f2.1 (5,x.w) a.iw (ze (by decide))).trans a.w
 rw [c6,c7] at hw' f2 ⊢
 refine ⟨zm _ _ _,by (repeat' first | assumption | exact zm _ _ _ | exact zy _ _ _ | refine (zo (ze (by decide))).trans ?_ | refine (q9 (ze (by decide))).trans ?_),hw',?_,?_,Nat.lt_of_lt_of_le a.io (f2.2 2),?_,Nat.lt_of_lt_of_le a.iw (f2.2 5),?_,?_⟩
 ·rw [← c6]; (repeat' first | assumption | exact zm _ _ _ | exact zy _ _ _ | refine (zo (ze (by decide))).trans ?_ | refine (q9 (ze (by decide))).trans ?_)
 ·rw [← c7]; exact (zo (ze (by decide))).trans (zy _ 7 _)
 ·show s.cnt 4 < t.cnt 4; rw [c4]; exact Nat.lt_succ_self _
 ·show s.cnt 6 < t.cnt 6 + 1; rw [c6]; exact Nat.lt_succ_self _
 ·show s.cnt 7 < t.cnt 7 + 1; rw [c7]; exact Nat.lt_succ_self _
omit H
theorem d5 {s:MS}{r:Lbl}{d:List (V×V)} (h:s.heap r=some (.dict d)):z6 s false (.ref r)=some (d.map (·.1)):=by
 show (match dictAt (.ref r) s with | some p=>some (p.2.map fun q:V×V=>q.1) | none=>(zv s (.ref r)).map fun q:Bool×List V=>q.2)=_
 rw [zey h]
theorem yi (s:MS) (v:V) (b:Bool):stays s s b v=true:=by
 cases b with
 | true=>rfl
 | false=>cases v <;> first | rfl | (show (decide _ && (_ || decide _))=true; rw [decide_eq_true rfl,decide_eq_true rfl,Bool.or_true]; rfl)
theorem j9 {key:Key}{r:Row}:∀ {k:ja},(k.map (·.1)).Nodup→(key,r)∈k→z7 key k=some r
 | [],_,h=>by cases h
 | (a,r') :: l,nd,h=>by
  rw [List.map_cons,List.nodup_cons] at nd
  rcases List.mem_cons.1 h with h | h
  ·cases h; exact if_pos rfl
  ·by_cases e:a=key
   ·exact (nd.1 (e ▸ List.mem_map.2 ⟨_,h,rfl⟩)).elim
   ·exact (if_neg e).trans (j9 nd.2 h)
noncomputable def zjn (k:ja) (st:St) (v:V):Bool:=match v with
 | .str key=>(match z7 key k with | some r=>decide (r.st=st) | none=>false)
 | _=>false
theorem mu {k:ja}{st:St} (nd:(k.map (·.1)).Nodup):((z4 k).map (·.1)).filter (zjn k st)=(k.filter fun p=>decide (p.2.st=st)).map fun p=>V.str p.1:=by
 have e:(z4 k).map (·.1)=k.map fun p=>V.str p.1:=by rw [z4,List.map_map]; rfl
 rw [e,List.filter_map]
 congr 1
 refine List.filter_congr fun p hp=>?_
 show (match z7 p.1 k with | some r=>decide (r.st=st) | none=>false)=_
 rw [j9 nd hp]
theorem pr {k:ja}{v:V} (h:v∈(z4 k).map (·.1)):∃ key r,v=.str key∧z7 key k=some r:=by
 obtain ⟨p,hp,rfl⟩:=List.mem_map.1 h
 obtain ⟨q,hq,rfl⟩:=List.mem_map.1 hp
 obtain ⟨r,hr⟩:=lu (List.mem_map.2 ⟨q,hq,rfl⟩)
 exact ⟨q.1,r,rfl,hr⟩
theorem zfn {C:Calls}{L:Loc} (a:HAt s i x h) (z:HZ h) (nd:(h.known.map (·.1)).Nodup) :
  compLoop s false (.ref (4,x.k)) 1 (evC P C (some (.cmp (.sub (.sub (.attr (.loc 0) 4) (.loc 1)) (.int 0)) .eq (.str [111,119,101,115])))) (ev P C (.loc 1)) [some (.ref (2,i)),none] [] ((z4 h.known).map (·.1)) s=.ok (h.owes.map .str) s:=by
 have ho:=a.o
 have hkn:=a.k
 have hl:(0:Nat) + ((z4 h.known).map (·.1)).length≤zf:=by have:=y6 z.k; rw [List.length_map]; show _≤16777216; lia
 refine (ww s s false (.ref (4,x.k)) 1 _ _ _ (zjn h.known .owes) id (yi _ _ _) _ [] ?_ ?_ hl).trans ?_
 ·intro v hv
  obtain ⟨key,r,rfl,hk⟩:=pr hv
  have hd:=p4 hk
  show ev P C _ [some (.ref (2,i)),some (.str key)] s=.ok (.bool (match z7 key h.known with | some r=>decide (r.st=.owes) | none=>false)) s
  rw [hk]
  show _=Res.ok (V.bool (decide (r.st=.owes))) s
  rw [← g6]
  (repeat' first | exact rfl | apply zu | apply kh | apply xg | exact qd (by assumption) rfl | exact w3 _ _ _ _ _ (by assumption) (by first | exact rfl | assumption))
 ·intro v hv _
  rfl
 ·rw [mu nd,List.map_id,HS.owes,List.map_map]; rfl
include H
theorem nk {fo:Fn} (hfo:fo=f_House_owes) (hf:P.fns 22=some fo) (n:Nat) (a:HAt s i x h) (z:HZ h) (nd:(h.known.map (·.1)).Nodup) :
  run P (n + 1) 22 [.ref (2,i)] s=.ok (.ref (14,s.cnt 14)) (s.new 14 (.list (h.owes.map .str))):=by
 subst hfo
 have ho:=a.o
 have hkn:=a.k
 refine qm (zl hf rfl ?_)
 exact qa (zm2 (src:=.ref (4,x.k)) (by (repeat' first | exact rfl | apply zu | exact qd (by assumption) rfl)) (d5 hkn) (zfn (L:=[]) a z nd)) ⟨rfl,rfl⟩
theorem zfm (hf:P.fns 29=some f_House_nudge) (n:Nat) (a:HAt s i x h) (z:HZ h) (nd:(h.written.map (·.1)).Nodup) :
  run P (n + 2) 29 [.ref (2,i)] s=.ok (.lst (h.nudge.map qp)) s:=by
 have ho:=a.o
 have hwn:=a.w
 have hm4:=H.mparcel
 refine qm (zl hf rfl ?_)
 have hl:(0:Nat) + ((z4 h.written).map (·.1)).length≤zf:=by have:=y6 z.w; rw [List.length_map]; show _≤16777216; lia
 refine qa (wl (src:=.ref (5,x.w)) (by (repeat' first | exact rfl | apply zu | exact qd (by assumption) rfl)) (d5 hwn) (ww s s false (.ref (5,x.w)) 1 _ _ _ (zjn h.written .owes) (fun v=>match v with | .str key=>(match z7 key h.written with | some r=>qp (qn h.num key r) | none=>.none) | _=>.none) (yi _ _ _) _ [] ?_ ?_ hl)) ⟨?_,rfl⟩
 ·intro v hv
  obtain ⟨key,r,rfl,hk⟩:=pr hv
  have hd:jp (.str key) (z4 h.written)=some (.tup [.str (stS r.st),.int r.turn,.int r.amt,vg r.marks]):=by rw [vi,hk]; rfl
  show ev P _ _ [some (.ref (2,i)),some (.str key)] s=.ok (.bool (match z7 key h.written with | some r=>decide (r.st=.owes) | none=>false)) s
  rw [hk]
  show _=Res.ok (V.bool (decide (r.st=.owes))) s
  rw [← g6]
  (repeat' first | exact rfl | apply zu | apply kh | apply xg | exact qd (by assumption) rfl | exact w3 _ _ _ _ _ (by assumption) (by first | exact rfl | assumption))
 ·intro v hv _
  obtain ⟨key,r,rfl,hk⟩:=pr hv
  have hd:jp (.str key) (z4 h.written)=some (.tup [.str (stS r.st),.int r.turn,.int r.amt,vg r.marks]):=by rw [vi,hk]; rfl
  have hp:=fw H n ho key r
  show ev P _ _ [some (.ref (2,i)),some (.str key)] s=.ok (match z7 key h.written with | some r=>qp (qn h.num key r) | none=>.none) s
  rw [hk]
  (repeat' first | exact rfl | apply zu | apply kh | apply zr | apply z5 | exact qd (by assumption) rfl | exact w3 _ _ _ _ _ (by assumption) (by first | exact rfl | assumption) | exact (zg (by assumption)).trans (by assumption) | assumption)
 ·show V.lst ([] ++ _)=_
  rw [List.nil_append,mu nd,HS.nudge,List.map_map,List.map_map]
  congr 1
  refine List.map_congr_left fun p hp=>?_
  show (match z7 p.1 h.written with | some r=>qp (qn h.num p.1 r) | none=>V.none)=qp (qn h.num p.1 p.2)
  rw [j9 nd (List.mem_filter.1 hp).1]
omit H
theorem tv (key:Key) (a b:Row):∀ k:ja,qt key b (qt key a k)=qt key b k
 | []=>if_pos rfl
 | (c,r) :: l=>by
  by_cases h:c=key
  ·rw [qt,if_pos h,qt,if_pos h,qt,if_pos h]
  ·rw [qt,if_neg h,qt,if_neg h,tv key a b l,qt,if_neg h]
noncomputable def bu (num:Int):Row:=if num=0 then ⟨.here,0,0,[]⟩ else ⟨.gone,-1,0,[]⟩
noncomputable def KeysV (kv:V) (ks:List Key) (s:MS):Prop:=kv=.lst (ks.map .str)∨∃ r:Lbl,kv=.ref r∧r.1≠2∧r.1≠4∧r.2 < s.cnt r.1∧s.heap r=some (.list (ks.map .str))
theorem zev {s:MS}{r:Lbl}{l:List V} (h:s.heap r=some (.list l)):dictAt (.ref r) s=none:=by
 show (match s.heap r with | some (.dict l)=>some (r,l) | _=>none)=_
 rw [h]
theorem wg {s:MS}{r:Lbl}{l:List V} (h:s.heap r=some (.list l)):z6 s false (.ref r)=some l:=by
 show (match dictAt (.ref r) s with | some p=>some (p.2.map fun q:V×V=>q.1) | none=>(zv s (.ref r)).map fun q:Bool×List V=>q.2)=_
 rw [zev h,jm h]; rfl
theorem KeysV.items {kv:V}{ks:List Key}{s:MS} (h:KeysV kv ks s):z6 s false kv=some (ks.map .str):=by
 rcases h with rfl | ⟨r,rfl,-,-,-,h⟩
 ·rfl
 ·exact wg h
theorem KeysV.stays {F:Lbl→Prop}{kv:V}{ks:List Key}{s t:MS} (h:KeysV kv ks s) (f:Fr F s t) (hF:∀ l,F l→l.1=2∨l.1=4):stays s t false kv=true:=by
 rcases h with rfl | ⟨r,rfl,h2,h4,hc,h⟩
 ·rfl
 ·show (decide _ && ((dictAt (.ref r) s).isNone || _))=true
  rw [decide_eq_true (f.1 r hc fun q=>(hF r q).elim h2 h4).symm,zev h]; rfl
theorem KeysV.step {F:Lbl→Prop}{kv:V}{ks:List Key}{s t:MS} (h:KeysV kv ks s) (f:Fr F s t) (hF:∀ l,F l→l.1=2∨l.1=4):KeysV kv ks t:=by
 rcases h with rfl | ⟨r,rfl,h2,h4,hc,h⟩
 ·exact .inl rfl
 ·exact .inr ⟨r,rfl,h2,h4,Nat.lt_of_lt_of_le hc (f.2 _),(f.1 r hc fun q=>(hF r q).elim h2 h4).trans h⟩
include H
omit H in
theorem Fr.fresh {F:Lbl→Prop}{s t u:MS}{r:Lbl} (a:Fr F s t) (b:Fr (At1 r) t u) (h:s.cnt r.1≤r.2):Fr F s u :=
 ⟨fun x hx n=>(b.1 x (Nat.lt_of_lt_of_le hx (a.2 _)) fun (e:x=r)=>Nat.not_lt_of_le h (e ▸ hx)).trans (a.1 x hx n),fun k=>Nat.le_trans (a.2 k) (b.2 k)⟩
omit H in
theorem ay (key:Key) (a:Row):∀ k:ja,(qt key a k).length≤k.length + 1
 | []=>Nat.le_refl _
 | p :: l=>by
  rw [qt]
  split
  ·exact Nat.le_succ _
  ·exact Nat.succ_le_succ (ay key a l)
noncomputable def zc2 (num:Int) (d:Nat):MObj:=.inst 1 [(0,.int num),(4,.ref (4,d))]
noncomputable def fz (num:Int) (kv:V) (i:Nat) (y:Option V):Loc:=[some (.ref (2,i)),some (.int num),some kv,y]
omit H in
theorem zhg {C:Calls}{n d:Nat}{l:Loc}{u:MS}{k0:ja}{num:Int}{Q:Fl×Loc→MS→Prop} (hu:u.heap (2,i)=some (zc2 num d)) (e3:u.heap (4,d)=some (.dict (z4 k0))) (hz:k0.length < 1000) (hi:i < u.cnt 2) (hd:d < u.cnt 4)
  (k:∀ t,HAt t i ⟨d,u.cnt 5,u.cnt 6,u.cnt 7⟩ ⟨num,k0,k0,[],[]⟩→Fr (At1 (2,i)) u t→(∀ k,k≠5→k≠6→k≠7→t.cnt k=u.cnt k)→Q (.next,some (.ref (2,i)) :: l) t) :
  OkR (exs P C n zow (some (.ref (2,i)) :: l) u) Q:=by
 refine z8 (aq (zu rfl (qd hu rfl)) e3 (bs hz)) rfl (xj 5 _ ((q9 (ze (by decide))).trans hu) rfl) (z8 rfl rfl (xj 6 _ ((q9 (ze (by decide))).trans (zm _ _ _)) rfl) (z8 rfl rfl (xj 7 _ ((q9 (ze (by decide))).trans (zm _ _ _)) rfl) (zz (k _ ⟨zm _ _ _,by (repeat' first | assumption | exact zm _ _ _ | exact zy _ _ _ | refine (zo (ze (by decide))).trans ?_ | refine (q9 (ze (by decide))).trans ?_),by (repeat' first | assumption | exact zm _ _ _ | exact zy _ _ _ | refine (zo (ze (by decide))).trans ?_ | refine (q9 (ze (by decide))).trans ?_),?_,(zo (ze (by decide))).trans (zy _ 7 _),hi,hd,Nat.lt_succ_self _,Nat.lt_succ_self _,Nat.lt_succ_self _⟩ (((((((Fr.refl _ _).new _ _).put (at1 _) _).new _ _).put (at1 _) _).new _ _).put (at1 _) _) fun _ h5 h6 h7=>(if_neg h7).trans ((if_neg h6).trans (if_neg h5))))))
 exact (zo (ze (by decide))).trans ((q9 (ze (by decide))).trans ((zo (ze (by decide))).trans (zy _ 6 _)))
omit H in
theorem zfk {C:Calls}{n d:Nat}{u:MS}{k0:ja}{num:Int}{kv:V}{Q:Fl×Loc→MS→Prop} (key:Key) (hu:u.heap (2,i)=some (zc2 num d)) (e3:u.heap (4,d)=some (.dict (z4 k0))) (hz:k0.length < 1000)
  (k:∀ t:MS,t.heap (4,d)=some (.dict (z4 (qt key (bu num) k0)))→t.heap (2,i)=some (zc2 num d)→Fr (At1 (4,d)) u t→t.cnt=u.cnt→Q (.next,fz num kv i (some (.str key))) t) :
  OkR (exs P C n zes (fz num kv i (some (.str key))) u) Q:=by
 have hl:∀ {k:ja},k.length≤1000→(z4 k).length < 16777216:=fun h=>by rw [z4,List.length_map]; exact Nat.lt_of_le_of_lt h (by decide)
 refine vf (v:=ar ⟨.here,0,0,[]⟩) rfl (zu rfl (qd hu rfl)) rfl (xn _ _ _ _ _ e3 (hl (Nat.le_of_lt hz))) ?_
 rw [x8]
 have h1:∀ o,(u.put (4,d) o).heap (2,i)=some (zc2 num d):=fun _=>(zo (ze (by decide))).trans hu
 have f1:∀ o,Fr (At1 (4,d)) u (u.put (4,d) o):=fun _=>(Fr.refl _ _).put (at1 _) _
 by_cases hz0:num=0
 ·exact zt (t:=false) (congrArg (fun q=>Res.ok (V.bool (!q)) _) (decide_eq_true hz0)) (zi (zz (k _ (by rw [bu,if_pos hz0]; exact zm _ _ _) (h1 _) (f1 _) rfl)))
 ·refine zt (t:=true) (congrArg (fun q=>Res.ok (V.bool (!q)) _) (decide_eq_false hz0)) (vf (v:=ar ⟨.gone,-1,0,[]⟩) rfl (zu rfl (qd (h1 _) rfl)) rfl (xn _ _ _ _ _ (zm _ _ _) (hl (Nat.le_trans (ay _ _ _) hz))) ?_)
  rw [x8,tv]
  exact zi (zz (k _ (by rw [bu,if_neg hz0]; exact zm _ _ _) ((zo (ze (by decide))).trans (h1 _)) ((f1 _).put (at1 _) _) rfl))
set_option genCtorIdx false in
structure InitI (num:Int) (ks:List Key) (i d:Nat) (t:MS) (rk:List Key) (_:Option V) (u:MS):Prop where
 c:u.cnt=t.cnt
 e:∃ dk,ks=dk ++ rk∧u.heap (4,d)=some (.dict (z4 (HS.new num dk).known))∧(HS.new num dk).known.length≤dk.length
 o:u.heap (2,i)=some (zc2 num d)
 f:Fr (At1 (4,d)) t u
omit H in
theorem zfz {C:Calls}{n d:Nat}{num:Int}{kv:V}{ks rk:List Key}{t u:MS}{key:Key}{y:Option V} (hn:ks.length < 1000) (e:InitI num ks i d t (key :: rk) y u)
  {Q:Fl×Loc→MS→Prop} (k:∀ y u,InitI num ks i d t rk y u→Q (.next,fz num kv i y) u) :
  OkR (exs P C n zes (fz num kv i (some (.str key))) u) Q:=by
 obtain ⟨dk,e1,e3,e4⟩:=e.e
 refine zfk key e.o e3 (Nat.lt_of_le_of_lt e4 (Nat.lt_of_le_of_lt ?_ hn)) fun t' q1 q2 q3 q4=>k _ t' ⟨q4.trans e.c,⟨dk ++ [key],by rw [e1,List.append_assoc]; rfl,?_⟩,q2,e.f.trans q3⟩
 ·rw [e1,List.length_append]; exact Nat.le_add_right _ _
 ·have e:(HS.new num (dk ++ [key])).known=qt key (bu num) (HS.new num dk).known:=List.foldl_append ..
  rw [e,List.length_append]; exact ⟨q1,Nat.le_trans (ay _ _ _) (Nat.succ_le_succ e4)⟩
omit H in
theorem zg2 {C:Calls}{n d:Nat}{num:Int}{kv:V}{ks:List Key}{t:MS}{Q:Fl×Loc→MS→Prop} (hkt:KeysV kv ks t) (hn:ks.length < 1000) (h2:t.heap (2,i)=some (zc2 num d)) (h3:t.heap (4,d)=some (.dict []))
  (k:∀ y u,InitI num ks i d t [] y u→Q (.next,fz num kv i y) u) :
  OkR (jc t false kv (u0 P C (.inl (.loc 3))) (exs P C n zes) (ks.map .str) (fz num kv i none) t) Q :=
 have hs:∀ {u},Fr (At1 (4,d)) t u→stays t u false kv=true:=fun f=>hkt.stays f fun _ e=>.inr (congrArg Prod.fst e)
 ku .str (fz num kv i) (InitI num ks i d t) (fun key rk y u e=>⟨hs e.f,zfz hn e fun y u e=>⟨y,rfl,e⟩⟩) (fun y u e=>⟨hs e.f,k y u e⟩) _ _ _ ⟨rfl,⟨[],rfl,h3,Nat.le_refl _⟩,h2,.refl _ _⟩
theorem zj9 (n:Nat) (num:Int) (kv:V) (ks:List Key) (ho:s.heap (2,i)=some (.inst 1 [])) (hi:i < s.cnt 2) (hkv:KeysV kv ks s) (hn:ks.length < 1000) :
  OkR (run P (n + 1) 20 [.ref (2,i),.int num,kv] s) fun v s'=>v=.none∧∃ x:HIx,x.fresh s∧HAt s' i x (HS.new num ks)∧Fr (At1 (2,i)) s s'∧s'.cnt 2=s.cnt 2∧∀ k,7 < k∨k=3→s'.cnt k=s.cnt k:=by
 refine zl H.init rfl (z8 rfl rfl (xj 0 _ ho rfl) (z8 rfl rfl (xj 4 _ ((q9 (ze (by decide))).trans (zm _ _ _)) rfl) ?_))
 have f1:Fr (At1 (2,i)) s (((s.put (2,i) (.inst 1 [(0,.int num)])).new 4 (.dict [])).put (2,i) (zc2 num (s.cnt 4))):=(((Fr.refl _ _).put (at1 _) _).new _ _).put (at1 _) _
 have hkt:=hkv.step f1 fun l e=>.inl (congrArg Prod.fst e)
 refine vx rfl hkt.items rfl (zg2 hkt hn (zm _ _ _) ((zo (ze (by decide))).trans (zy _ 4 _)) fun y u e=>?_)
 obtain ⟨dk,e1,e3,e4⟩:=e.e
 cases e1.trans (List.append_nil _)
 have c:∀ k,k≠4→u.cnt k=s.cnt k:=fun k hk=>(congrFun e.c k).trans (if_neg hk)
 refine zhg e.o e3 (Nat.lt_of_le_of_lt e4 hn) (Nat.lt_of_lt_of_eq hi (c 2 (by decide)).symm) (Nat.lt_of_lt_of_eq (Nat.lt_succ_self _) (congrFun e.c 4).symm) fun t a f hc=>⟨rfl,_,⟨Nat.le_refl _,Nat.le_of_eq (c 5 (by decide)).symm,Nat.le_of_eq (c 6 (by decide)).symm,Nat.le_of_eq (c 7 (by decide)).symm⟩,a,(f1.fresh e.f (Nat.le_refl _)).trans f,(hc 2 (by decide) (by decide) (by decide)).trans (c 2 (by decide)),fun k hk=>?_⟩
 have hk:k≠4∧k≠5∧k≠6∧k≠7:=by lia
 exact (hc k hk.2.1 hk.2.2.1 hk.2.2.2).trans (c k hk.1)
theorem cj (hin:P.inits 1=some (2,20)) (n:Nat) (num:Int) (kv:V) (ks:List Key) (hkv:KeysV kv ks s) (hn:ks.length < 1000) :
  OkR (xx P (run P (n + 1)) 1 [.int num,kv] s) fun v s'=>v=.ref (2,s.cnt 2)∧∃ x:HIx,x.fresh s∧HAt s' (s.cnt 2) x (HS.new num ks)∧Fr (fun _=>False) s s'∧s'.cnt 2=s.cnt 2 + 1∧∀ k,7 < k∨k=3→s'.cnt k=s.cnt k:=by
 have f0:Fr (fun _=>False) s (s.new 2 (.inst 1 [])):=(Fr.refl _ _).new _ _
 have h:=zj9 H n num kv ks (i:=s.cnt 2) (s:=s.new 2 (.inst 1 [])) (zy _ _ _) (by rw [uk]; exact Nat.lt_succ_self _) (hkv.step f0 fun _ q=>q.elim) hn
 obtain ⟨v,s',h1,rfl,x,hx,h2,h3,h4,h5⟩:=qz h
 rw [xx,hin]
 show OkR (Res.bind (run P (n + 1) 20 [.ref (2,s.cnt 2),.int num,kv] (s.new 2 (.inst 1 []))) _) _
 rw [h1]
 refine ⟨rfl,x,⟨Nat.le_trans (f0.2 4) hx.1,Nat.le_trans (f0.2 5) hx.2.1,Nat.le_trans (f0.2 6) hx.2.2.1,Nat.le_trans (f0.2 7) hx.2.2.2⟩,h2,⟨fun l hl _=>(h3.1 l (Nat.lt_of_lt_of_le hl (f0.2 l.1)) fun (e:l=(2,s.cnt 2))=>by rw [e] at hl; exact Nat.lt_irrefl _ hl).trans (f0.1 l hl fun q=>q),fun k=>Nat.le_trans (f0.2 k) (h3.2 k)⟩,h4.trans (uk _ _ _),fun k hk=>(h5 k hk).trans (if_neg fun e=>absurd (e ▸ hk) (by decide))⟩
end
end Mine
end
section
namespace Mine
noncomputable def LMk:Letter→Prop
 | .parcel _ _ _ _ ms=>MOk ms
 | .call _ c _ _ _=>0≤c∧c < 6
 | _=>True
set_option genCtorIdx false in
structure HInv (h:HS) (ks:List Key) (m:Nat):Prop where
 hk:h.known.map (·.1)=ks
 hw:h.written.map (·.1)=ks
 kk:KOk h.known
 kw:KOk h.written
 lm:∀ L∈h.laid,LMk L
 la:h.laid.length≤m
 fr:h.fresh.length≤m
section
variable {h:HS}{ks:List Key}{m:Nat}{key:Key}{r:Row}
theorem HInv.get (I:HInv h ks m) (hk:key∈ks):∃ r,z7 key h.known=some r∧MOk r.marks:=by
 rw [← I.hk] at hk
 obtain ⟨r,hr⟩:=lu hk
 exact ⟨r,hr,I.kk _ (vm hr)⟩
theorem HInv.mono (I:HInv h ks m) {m':Nat} (hm:m≤m'):HInv h ks m':=⟨I.hk,I.hw,I.kk,I.kw,I.lm,Nat.le_trans I.la hm,Nat.le_trans I.fr hm⟩
theorem HInv.z (I:HInv h ks m) (hm:m < 16777000) (hks:ks.length≤6):HZ h:=by
 have h1:=congrArg List.length I.hk
 have h2:=congrArg List.length I.hw
 rw [List.length_map] at h1 h2
 exact ⟨Nat.lt_of_le_of_lt I.la hm,Nat.lt_of_le_of_lt I.fr hm,by lia,by lia⟩
theorem KOk.put {k:ja} (hk:KOk k) (key:Key) {r:Row} (hr:MOk r.marks):KOk (qt key r k):=fun p hp=>by
 rcases zav hp with rfl | hp
 ·exact hr
 ·exact hk p hp
theorem y5 {α:Type}{P:α→Prop}{l:List α}{a:α} (h:∀ x∈l,P x) (ha:P a):∀ x∈l ++ [a],P x:=fun x hx=>by
 rcases List.mem_append.1 hx with hx | hx
 ·exact h x hx
 ·rw [List.mem_singleton.1 hx]; exact ha
theorem wd {α:Type}{l:List α}{a:α}{m:Nat} (h:l.length≤m):(l ++ [a]).length≤m + 1:=by rw [List.length_append]; exact Nat.succ_le_succ h
theorem HInv.came (I:HInv h ks m) (L:Letter) (hL:LMk L):HInv (h.came L) ks (m + 1):=by
 cases L with
 | answer=>exact I.mono (Nat.le_succ _)
 | call hh c n key w =>
  cases hk:z7 key h.known with
  | none=>rw [jq hk]; exact I.mono (Nat.le_succ _)
  | some r =>
   rw [jk hk]
   show HInv (if r.st=.here then h.called c n key w r else h) ks (m + 1)
   split
   ·have hf:HInv (h.first c n key w r) ks (m + 1) :=
     ⟨(yf _ _ _ _ hk).trans I.hk,I.hw,I.kk.put _ (MOk.put (I.kk _ (vm hk)) hL.1 hL.2),I.kw,y5 I.lm trivial,wd I.la,wd I.fr⟩
    unfold HS.called
    split
    ·split
     ·exact I.mono (Nat.le_succ _)
     ·split
      ·exact ⟨I.hk,I.hw,I.kk,I.kw,y5 I.lm trivial,wd I.la,Nat.le_succ_of_le I.fr⟩
      ·exact hf
    ·exact hf
   ·exact I.mono (Nat.le_succ _)
 | parcel hh key tn am ms =>
  cases hk:z7 key h.known with
  | none=>rw [jg hk]; exact I.mono (Nat.le_succ _)
  | some r =>
   rw [jb hk]
   show HInv { h with known:=if r.turn < tn then qt key ⟨.here,tn,am,ms⟩ h.known else h.known,laid:=h.laid ++ [.taken (1 - h.num) key tn] } ks (m + 1)
   split
   ·exact ⟨(yf _ _ _ _ hk).trans I.hk,I.hw,I.kk.put _ hL,I.kw,y5 I.lm trivial,wd I.la,Nat.le_succ_of_le I.fr⟩
   ·exact ⟨I.hk,I.hw,I.kk,I.kw,y5 I.lm trivial,wd I.la,Nat.le_succ_of_le I.fr⟩
 | taken hh key tn =>
  cases hk:z7 key h.known with
  | none=>rw [jo hk]; exact I.mono (Nat.le_succ _)
  | some r =>
   rw [ji hk]
   show HInv (if r.st=.owes∧tn=r.turn + 1 then { h with known:=qt key ⟨.gone,r.turn,0,[]⟩ h.known } else h) ks (m + 1)
   split
   ·exact ⟨(yf _ _ _ _ hk).trans I.hk,I.hw,I.kk.put _ trivial,I.kw,I.lm,Nat.le_succ_of_le I.la,Nat.le_succ_of_le I.fr⟩
   ·exact I.mono (Nat.le_succ _)
theorem HInv.move (I:HInv h ks m) (hk:z7 key h.known=some r):HInv (h.move key r) ks (m + 1) :=
 ⟨(yf _ _ _ _ hk).trans I.hk,I.hw,I.kk.put _ (I.kk _ (vm hk)),I.kw,y5 I.lm (I.kk _ (vm hk)),wd I.la,Nat.le_succ_of_le I.fr⟩
theorem HInv.write (I:HInv h ks m):HInv h.write ks m:=⟨I.hk,I.hk,I.kk,I.kk,fun _ q=>(List.not_mem_nil q).elim,Nat.zero_le _,Nat.zero_le _⟩
theorem HInv.sleep (I:HInv h ks m):HInv h.sleep ks m:=⟨I.hw,I.hw,I.kw,I.kw,fun _ q=>(List.not_mem_nil q).elim,Nat.zero_le _,Nat.zero_le _⟩
theorem zhy (h:HS) (L:Letter):(h.came L).num=h.num:=by
 cases L with
 | answer=>rfl
 | call hh c n key w =>
  cases hk:z7 key h.known with
  | none=>rw [jq hk]
  | some r =>
   rw [jk hk]
   unfold HS.called
   split
   ·split
    ·split
     ·rfl
     ·split <;> rfl
    ·rfl
   ·rfl
 | parcel hh key tn am ms =>
  cases hk:z7 key h.known with
  | none=>rw [jg hk]
  | some r=>rw [jb hk]
 | taken hh key tn =>
  cases hk:z7 key h.known with
  | none=>rw [jo hk]
  | some r=>rw [ji hk]; split <;> rfl
theorem za8 (key:Key) (x:Row):∀ k:ja,key ∉ k.map (·.1)→qt key x k=k ++ [(key,x)]
 | [],_=>rfl
 | (a,r) :: l,hn=>by
  have h1:¬ a=key:=fun e=>hn (e ▸ List.mem_cons_self ..)
  rw [qt,if_neg h1,za8 key x l fun q=>hn (List.mem_cons_of_mem _ q)]; rfl
theorem zbj (x:Row):∀ (ks:List Key) (k:ja),(k.map (·.1) ++ ks).Nodup→ks.foldl (fun k key=>qt key x k) k=k ++ ks.map fun key=>(key,x)
 | [],k,_=>(List.append_nil k).symm
 | key :: ks,k,nd=>by
  have hn:key ∉ k.map (·.1):=fun q=>(List.nodup_append.1 nd).2.2 _ q _ (List.mem_cons_self ..) rfl
  rw [List.foldl_cons,za8 key x k hn,zbj x ks,List.append_assoc]; rfl
  rw [List.map_append,List.append_assoc]; exact nd
theorem we (num:Int) {ks:List Key} (nd:ks.Nodup):(HS.new num ks).known=ks.map fun key=>(key,bu num):=zbj (bu num) ks [] nd
theorem HInv.new (num:Int) (nd:ks.Nodup):HInv (HS.new num ks) ks 0:=by
 have e:=we num nd
 have hk:(HS.new num ks).known.map (·.1)=ks:=by rw [e,List.map_map]; exact List.map_id ks
 have ok:KOk (HS.new num ks).known:=fun p hp=>by
  rw [e] at hp
  obtain ⟨key,-,rfl⟩:=List.mem_map.1 hp
  unfold bu
  split <;> exact trivial
 exact ⟨hk,hk,ok,ok,fun _ q=>(List.not_mem_nil q).elim,Nat.le_refl _,Nat.le_refl _⟩
theorem bf (I:HInv h ks m):h.nudge.length≤ks.length:=by
 have h2:=congrArg List.length I.hw
 rw [List.length_map] at h2
 rw [HS.nudge,List.length_map,← h2]; exact List.length_filter_le ..
end
end Mine
end
section
namespace Mine
set_option genCtorIdx false in
structure Side (p:Int) (K D K' D':Row):Prop where
 pk:(K.turn - p) % 2=0
 pd:(D.turn - p) % 2=0
 le:D.turn≤K.turn
 up:K.turn≤D'.turn + 1
 hk:K.st=.here→K'.turn < K.turn
 hd:D.st=.here→K'.turn < D.turn
 gk:K.st=.gone→K.turn + 1≤D'.turn
 gd:D.st=.gone→D.turn + 1≤D'.turn
 sm:K.turn=D.turn→D.st≠.here→K.st≠.here
set_option genCtorIdx false in
structure PP (T:Int) (K D:Row):Prop where
 tu:T - 1≤D.turn
 d:D.turn=T - 1→D.st≠.here
 k:K.turn=T - 1→K.st≠.here
set_option genCtorIdx false in
structure LP (T:Int) (K:Row):Prop where
 tu:T - 1≤K.turn
 k:K.turn=T - 1→K.st≠.here
section
variable {p T am:Int}{K D K' D':Row}{ms:List z9}
theorem Side.move (a:Side p K D K' D'):Side p { K with st:=.owes } D K' D':=⟨a.pk,a.pd,a.le,a.up,nofun,a.hd,nofun,a.gd,nofun⟩
theorem Side.move' (b:Side (1 - p) K' D' K D):Side (1 - p) K' D' { K with st:=.owes } D:=⟨b.pk,b.pd,b.le,b.up,b.hk,b.hd,b.gk,b.gd,b.sm⟩
theorem Side.lt (a:Side p K D K' D') (b:Side (1 - p) K' D' K D) (ht:(T - p) % 2=0) (h:K.turn < T):K'.turn < T:=by
 have h1:=b.up; have h2:=a.le; have h3:=b.pk
 omega
theorem Side.parcel (a:Side p K D K' D') (b:Side (1 - p) K' D' K D) (ht:(T - p) % 2=0) (h:K.turn < T) (L:PP T K' D'):Side p ⟨.here,T,am,ms⟩ D K' D':=by
 have h1:=a.lt b ht h; have h2:=a.le; have h3:=L.tu
 exact ⟨ht,a.pd,by show D.turn≤T; lia,by show T≤_; lia,fun _=>h1,a.hd,nofun,a.gd,fun e=>by have e:T=D.turn:=e; lia⟩
theorem Side.parcel' (a:Side p K D K' D') (b:Side (1 - p) K' D' K D) (ht:(T - p) % 2=0) (h:K.turn < T) (L:PP T K' D'):Side (1 - p) K' D' ⟨.here,T,am,ms⟩ D:=by
 have h1:=a.lt b ht h; have h2:=b.le; have h3:=L.tu
 exact ⟨b.pk,b.pd,b.le,b.up,fun e=>absurd e (L.k (by omega)),fun e=>absurd e (L.d (by omega)),b.gk,b.gd,b.sm⟩
theorem Side.taken (a:Side p K D K' D') (h:K.turn + 1≤D'.turn):Side p ⟨.gone,K.turn,0,[]⟩ D K' D':=⟨a.pk,a.pd,a.le,a.up,nofun,a.hd,fun _=>h,a.gd,nofun⟩
theorem Side.taken' (b:Side (1 - p) K' D' K D):Side (1 - p) K' D' ⟨.gone,K.turn,0,[]⟩ D:=⟨b.pk,b.pd,b.le,b.up,b.hk,b.hd,b.gk,b.gd,b.sm⟩
theorem Side.write (a:Side p K D K' D'):Side p K K K' D':=⟨a.pk,a.pk,Int.le_refl _,a.up,a.hk,a.hk,a.gk,a.gk,fun _ h=>h⟩
theorem Side.write' (a:Side p K D K' D') (b:Side (1 - p) K' D' K D):Side (1 - p) K' D' K K :=
 have h:=a.le
 ⟨b.pk,b.pd,b.le,by have:=b.up; lia,b.hk,b.hd,fun e=>by have:=b.gk e; lia,fun e=>by have:=b.gd e; lia,b.sm⟩
theorem Side.sleep (a:Side p K D K' D'):Side p D D K' D':=⟨a.pd,a.pd,Int.le_refl _,by have:=a.le; have:=a.up; lia,a.hd,a.hd,a.gd,a.gd,fun _ h=>h⟩
theorem Side.sleep' (a:Side p K D K' D') (b:Side (1 - p) K' D' K D):Side (1 - p) K' D' D D :=
 have h:=a.le
 ⟨b.pk,b.pd,b.le,b.up,fun e=>by have:=b.hk e; omega,fun e=>by have:=b.hd e; omega,b.gk,b.gd,b.sm⟩
theorem PP.move (L:PP T K D):PP T { K with st:=.owes } D:=⟨L.tu,L.d,nofun⟩
theorem PP.came (L:PP T K D) (a:Side p K D K' D') {T':Int} (h:K.turn < T'):PP T ⟨.here,T',am,ms⟩ D:=⟨L.tu,L.d,fun e=>by have e:T'=T - 1:=e; have:=L.tu; have:=a.le; lia⟩
theorem PP.taken (L:PP T K D):PP T ⟨.gone,K.turn,0,[]⟩ D:=⟨L.tu,L.d,nofun⟩
theorem PP.write (L:PP T K D) (a:Side p K D K' D'):PP T K K:=⟨by have:=L.tu; have:=a.le; lia,L.k,L.k⟩
theorem PP.sleep (L:PP T K D):PP T D D:=⟨L.tu,L.d,L.d⟩
theorem LP.post (L:LP T K):PP T K K:=⟨L.tu,L.k,L.k⟩
theorem LP.moved:LP (K.turn + 1) { K with st:=.owes }:=⟨by show K.turn + 1 - 1≤K.turn; lia,nofun⟩
theorem LP.move (L:LP T K):LP T { K with st:=.owes }:=⟨L.tu,nofun⟩
theorem LP.came (L:LP T K) {T':Int} (h:K.turn < T'):LP T ⟨.here,T',am,ms⟩:=⟨by have:=L.tu; show T - 1≤T'; lia,fun e=>by have e:T'=T - 1:=e; have:=L.tu; lia⟩
theorem LP.taken (L:LP T K):LP T ⟨.gone,K.turn,0,[]⟩:=⟨L.tu,nofun⟩
theorem Side.nudge (a:Side p K D K' D') (h:D.st=.owes):PP (D.turn + 1) K D:=⟨by lia,fun _=>by rw [h]; nofun,fun e=>a.sm (by lia) (by rw [h]; nofun)⟩
theorem Side.one (a:Side p K D K' D') (b:Side (1 - p) K' D' K D):¬ (K.st=.here∧K'.st=.here):=fun h=>by
 have h1:=a.hk h.1; have h2:=b.hk h.2
 lia
theorem Side.owes (a:Side p K D K' D') (b:Side (1 - p) K' D' K D) (h1:K.st≠.here) (h2:K'.st≠.here):K.st=.owes∨K'.st=.owes:=by
 cases hK:K.st with
 | here=>exact absurd hK h1
 | owes=>exact .inl rfl
 | gone =>
  cases hK':K'.st with
  | here=>exact absurd hK' h2
  | owes=>exact .inr rfl
  | gone =>
   have g1:=a.gk hK; have g2:=b.gk hK'; have g3:=a.le; have g4:=b.le
   lia
end
end Mine
end
section
namespace Mine
noncomputable def f_is_whole:Fn:=⟨1,["thing"],[.ret (some (.and [.isinst (.loc 0) [.int],.not (.isinst (.loc 0) [.bool])]))]⟩
noncomputable def f_need_wish (xc:Nat):Fn:=⟨1,["wish"],[.ite (.or [.not (.isinst (.loc 0) [.tuple]),.cmp (.prim .len [.loc 0]) .lt (.int 1),.not (.isinst (.sub (.loc 0) (.int 0)) [.str])]) [.raise xc] [],.ite (.and [.cmp (.sub (.loc 0) (.int 0)) .eq (.str [103,101,116]),.cmp (.prim .len [.loc 0]) .eq (.int 1)]) [.ret none] [],.ite (.or [.cmp (.sub (.loc 0) (.int 0)) .notin (.tup [.str [115,101,116],.str [97,100,100]]),.cmp (.prim .len [.loc 0]) .ne (.int 2),.not (.call 0 [.sub (.loc 0) (.int 1)])]) [.raise xc] [],.ite (.not (.cmp2 (.neg (.gint "GREATEST" 1000000000000000000000000000000)) .le (.sub (.loc 0) (.int 1)) .le (.gint "GREATEST" 1000000000000000000000000000000))) [.raise xc] []]⟩
noncomputable def f_is_key:Fn:=⟨1,["thing","sign"],[.ite (.or [.not (.isinst (.loc 0) [.str]),.not (.cmp2 (.int 1) .le (.prim .len [.loc 0]) .le (.gint "LONGEST" 8))]) [.ret (some (.bool false))] [],.for_ (.inl (.loc 1)) false (.loc 0) [.ite (.cmp (.loc 1) .notin (.gstr "LETTERS" [97,98,99,100,101,102,103,104,105,106,107,108,109,110,111,112,113,114,115,116,117,118,119,120,121,122])) [.ret (some (.bool false))] []],.ret (some (.bool true))]⟩
noncomputable def f_need_world (xc:Nat):Fn:=⟨2,["keys","callers","k"],[.ite (.or [.not (.isinst (.loc 0) [.list]),.not (.cmp2 (.int 1) .le (.prim .len [.loc 0]) .le (.gint "MOST" 6))]) [.raise xc] [],.for_ (.inl (.loc 2)) true (.prim .len [.loc 0]) [.ite (.or [.not (.call 4 [.sub (.loc 0) (.loc 2)]),.cmp (.sub (.loc 0) (.loc 2)) .isin (.slice (.loc 0) none (some (.loc 2)))]) [.raise xc] []],.ite (.or [.not (.call 0 [.loc 1]),.not (.cmp2 (.int 1) .le (.loc 1) .le (.gint "MOST" 6))]) [.raise xc] []]⟩
noncomputable def f_Caller_init:Fn:=⟨2,["self","number"],[.setattr (.loc 0) 0 (.loc 1),.setattr (.loc 0) 1 (.int 0),.setattr (.loc 0) 2 .none,.setattr (.loc 0) 3 (.lstM 8 [])]⟩
noncomputable def f_Caller_begin:Fn:=⟨3,["self","key","wish"],[.setattr (.loc 0) 1 (.bin .add (.attr (.loc 0) 1) (.int 1)),.setattr (.loc 0) 2 (.tup [.attr (.loc 0) 1,.loc 1,.loc 2]),.ret (some (.attr (.loc 0) 1))]⟩
noncomputable def f_Caller_letter:Fn:=⟨2,["self","house","call"],[.assign 2 (.attr (.loc 0) 2),.ret (some (.tup [.str [99,97,108,108],.loc 1,.attr (.loc 0) 0,.sub (.loc 2) (.int 0),.sub (.loc 2) (.int 1),.sub (.loc 2) (.int 2)]))]⟩
noncomputable def f_Caller_asking:Fn:=⟨1,["self"],[.ret (some (.attr (.loc 0) 2))]⟩
noncomputable def f_Caller_answers:Fn:=⟨1,["self"],[.ret (some (.listM 13 (.attr (.loc 0) 3)))]⟩
noncomputable def f_World_init:Fn:=⟨3,["self","keys","callers",""],[.expr (.call 5 [.loc 1,.loc 2]),.setattr (.loc 0) 8 (.prim .list1 [.loc 1]),.setattr (.loc 0) 9 (.lst [.new 1 [.int 0,.loc 1],.new 1 [.int 1,.loc 1]]),.setattr (.loc 0) 10 (.comp none 3 true (.loc 2) none (.new 2 [.loc 3])),.setattr (.loc 0) 11 (.lstM 9 []),.setattr (.loc 0) 12 (.lstM 10 [])]⟩
noncomputable def f_World_need_caller (xc:Nat):Fn:=⟨2,["self","caller"],[.ite (.or [.not (.call 0 [.loc 1]),.not (.cmp2 (.int 0) .le (.loc 1) .lt (.prim .len [.attr (.loc 0) 10]))]) [.raise xc] []]⟩
noncomputable def f_World_need_house (xc:Nat):Fn:=⟨2,["self","house"],[.ite (.or [.not (.call 0 [.loc 1]),.not (.cmp2 (.int 0) .le (.loc 1) .lt (.int 2))]) [.raise xc] []]⟩
noncomputable def f_World_need_key (xc:Nat):Fn:=⟨2,["self","key"],[.ite (.or [.not (.isinst (.loc 1) [.str]),.cmp (.loc 1) .notin (.attr (.loc 0) 8)]) [.raise xc] []]⟩
noncomputable def f_World_need_place (xc:Nat):Fn:=⟨2,["self","place"],[.ite (.or [.not (.call 0 [.loc 1]),.not (.cmp2 (.int 0) .le (.loc 1) .lt (.prim .len [.attr (.loc 0) 11]))]) [.raise xc] []]⟩
noncomputable def f_World_call (xc:Nat):Fn:=⟨5,["self","caller","house","key","wish","number"],[.expr (.meth (.loc 0) 13 [.loc 1]),.expr (.meth (.loc 0) 14 [.loc 2]),.expr (.meth (.loc 0) 15 [.loc 3]),.expr (.call 1 [.loc 4]),.ite (.isC true (.meth (.sub (.attr (.loc 0) 10) (.loc 1)) 11 []) .none) [.raise xc] [],.assign 5 (.meth (.sub (.attr (.loc 0) 10) (.loc 1)) 9 [.loc 3,.loc 4]),.expr (.bm .append (.attr (.loc 0) 11) [.meth (.sub (.attr (.loc 0) 10) (.loc 1)) 10 [.loc 2]]),.ret (some (.loc 5))]⟩
noncomputable def f_World_again (xc:Nat):Fn:=⟨3,["self","caller","house"],[.expr (.meth (.loc 0) 13 [.loc 1]),.expr (.meth (.loc 0) 14 [.loc 2]),.ite (.isC false (.meth (.sub (.attr (.loc 0) 10) (.loc 1)) 11 []) .none) [.raise xc] [],.expr (.bm .append (.attr (.loc 0) 11) [.meth (.sub (.attr (.loc 0) 10) (.loc 1)) 10 [.loc 2]])]⟩
noncomputable def f_World_letters:Fn:=⟨1,["self"],[.ret (some (.listM 11 (.attr (.loc 0) 11)))]⟩
noncomputable def f_World_brought:Fn:=⟨2,["self","letter"],[.ite (.cmp (.sub (.loc 1) (.int 0)) .eq (.str [97,110,115,119,101,114])) [.expr (.meth (.sub (.attr (.loc 0) 10) (.sub (.loc 1) (.int 1))) 2 [.sub (.loc 1) (.int 2),.sub (.loc 1) (.int 3)])] [.expr (.meth (.sub (.attr (.loc 0) 9) (.sub (.loc 1) (.int 1))) 2 [.loc 1])]]⟩
noncomputable def f_World_hand:Fn:=⟨2,["self","place"],[.expr (.meth (.loc 0) 16 [.loc 1]),.expr (.meth (.loc 0) 20 [.bm .pop (.attr (.loc 0) 11) [.loc 1]])]⟩
noncomputable def f_World_twice:Fn:=⟨2,["self","place"],[.expr (.meth (.loc 0) 16 [.loc 1]),.expr (.meth (.loc 0) 20 [.sub (.attr (.loc 0) 11) (.loc 1)])]⟩
noncomputable def f_World_lose:Fn:=⟨2,["self","place"],[.expr (.meth (.loc 0) 16 [.loc 1]),.expr (.bm .pop (.attr (.loc 0) 11) [.loc 1])]⟩
noncomputable def f_World_sleep:Fn:=⟨2,["self","house"],[.expr (.meth (.loc 0) 14 [.loc 1]),.expr (.meth (.sub (.attr (.loc 0) 9) (.loc 1)) 7 [])]⟩
noncomputable def f_World_ledger:Fn:=⟨1,["self"],[.ret (some (.listM 12 (.attr (.loc 0) 12)))]⟩
noncomputable def f_World_asking:Fn:=⟨2,["self","caller"],[.expr (.meth (.loc 0) 13 [.loc 1]),.ret (some (.meth (.sub (.attr (.loc 0) 10) (.loc 1)) 11 []))]⟩
noncomputable def f_World_answers:Fn:=⟨2,["self","caller"],[.expr (.meth (.loc 0) 13 [.loc 1]),.ret (some (.meth (.sub (.attr (.loc 0) 10) (.loc 1)) 12 []))]⟩
set_option genCtorIdx false in
structure WorldP (P:Prog):Prop where
 whole:P.fns 0=some f_is_whole
 ncal:∃ xc,P.fns 41=some (f_World_need_caller xc)
 nhou:∃ xc,P.fns 42=some (f_World_need_house xc)
 nkey:∃ xc,P.fns 43=some (f_World_need_key xc)
 npla:∃ xc,P.fns 44=some (f_World_need_place xc)
 cask:P.fns 14=some f_Caller_asking
 clet:P.fns 12=some f_Caller_letter
 brou:P.fns 48=some f_World_brought
 m13:P.meths 0 13=some 41
 m14:P.meths 0 14=some 42
 m15:P.meths 0 15=some 43
 m16:P.meths 0 16=some 44
 m20:P.meths 0 20=some 48
 c9:P.meths 2 9=some 11
 c10:P.meths 2 10=some 12
 c11:P.meths 2 11=some 14
noncomputable def hn:Bool→Int
 | false=>0
 | true=>1
noncomputable def hx:Bool→Nat
 | false=>0
 | true=>1
noncomputable def upd {α:Type} (f:Bool→α) (i:Bool) (v:α):Bool→α:=fun k=>if k=i then v else f k
section
variable {α:Type}{f:Bool→α}{i k:Bool}{v:α}
theorem zh:upd f i v i=v:=if_pos rfl
theorem v0 (h:k≠i):upd f i v k=f k:=if_neg h
theorem jf {P:Bool→α→Prop} (h:P i v) (g:∀ k,k≠i→P k (f k)):∀ k,P k (upd f i v k):=fun k=>by
 by_cases e:k=i
 ·subst e; rw [zh]; exact h
 ·rw [v0 e]; exact g k e
end
theorem zkt {i k:Bool} (h:k≠i):hx k≠hx i:=by
 cases i <;> cases k <;> first | exact absurd rfl h | decide
set_option genCtorIdx false in
structure HH (s:MS) (x:Bool→HIx) (h:Bool→HS):Prop where
 at_:∀ i,HAt s (hx i) (x i) (h i)
 k:(x false).k≠(x true).k
 w:(x false).w≠(x true).w
 la:(x false).la≠(x true).la
 fr:(x false).fr≠(x true).fr
noncomputable def NH (l:Lbl):Prop:=l.1≠2∧l.1≠4∧l.1≠5∧l.1≠6∧l.1≠7
theorem zro {i:Nat}{x:HIx}{l:Lbl} (q:HF i x l):¬ NH l:=fun z=>by
 rcases q with rfl | rfl | rfl | rfl | rfl
 ·exact z.1 rfl
 ·exact z.2.1 rfl
 ·exact z.2.2.1 rfl
 ·exact z.2.2.2.1 rfl
 ·exact z.2.2.2.2 rfl
section
variable {s s':MS}{x:Bool→HIx}{h:Bool→HS}{i:Bool}
theorem HH.step (a:HH s x h) (f:Fr NH s s'):HH s' x h:=⟨fun i=>(a.at_ i).step f fun l q z=>zro q z,a.k,a.w,a.la,a.fr⟩
theorem HH.ne (a:HH s x h) {i k:Bool} (e:k≠i):∀ l,HF (hx k) (x k) l→¬ HF (hx i) (x i) l:=by
 have sy:∀ {α:Type}{g:Bool→α},g false≠g true→g k≠g i:=by
  intro α g hg
  cases i <;> cases k <;> first | exact absurd rfl e | exact hg | exact hg.symm
 have h1:=zkt e
 have h2:=sy (g:=fun i=>(x i).k) a.k
 have h3:=sy (g:=fun i=>(x i).w) a.w
 have h4:=sy (g:=fun i=>(x i).la) a.la
 have h5:=sy (g:=fun i=>(x i).fr) a.fr
 rintro l (rfl | rfl | rfl | rfl | rfl) (q | q | q | q | q) <;> first | exact absurd (congrArg Prod.fst q) (of_decide_eq_true rfl) | skip
 ·exact h1 (congrArg Prod.snd q)
 ·exact h2 (congrArg Prod.snd q)
 ·exact h3 (congrArg Prod.snd q)
 ·exact h4 (congrArg Prod.snd q)
 ·exact h5 (congrArg Prod.snd q)
theorem HH.deed (a:HH s x h) {h':HS} (g:HAt s' (hx i) (x i) h') (f:Fr (HF (hx i) (x i)) s s'):HH s' x (upd h i h') :=
 ⟨jf (P:=fun k g=>HAt s' (hx k) (x k) g) g fun k e=>(a.at_ k).step f (a.ne e),a.k,a.w,a.la,a.fr⟩
theorem hf2 {k i:Bool} (e:k≠i) {x:HIx}:∀ l,HF (hx k) x l→¬ At1 (2,hx i) l:=by
 rintro l (rfl | rfl | rfl | rfl | rfl) q <;> first | exact absurd (congrArg Prod.fst q) (of_decide_eq_true rfl) | skip
 exact zkt e (congrArg Prod.snd q)
theorem HH.slept (a:HH s x h) {h':HS} (g:HAt s' (hx i) ⟨s.cnt 4,(x i).w,s.cnt 6,s.cnt 7⟩ h') (f:Fr (At1 (2,hx i)) s s'):HH s' (upd x i ⟨s.cnt 4,(x i).w,s.cnt 6,s.cnt 7⟩) (upd h i h'):=by
 have hk:=fun k=>Nat.ne_of_lt (a.at_ k).ik
 have hl:=fun k=>Nat.ne_of_lt (a.at_ k).il
 have hr:=fun k=>Nat.ne_of_lt (a.at_ k).ir
 refine ⟨fun k=>?_,?_,?_,?_,?_⟩
 ·by_cases e:k=i
  ·subst e; rw [zh,zh]; exact g
  ·rw [v0 e,v0 e]; exact (a.at_ k).step f (hf2 e)
 ·cases i
  ·exact (hk true).symm
  ·exact hk false
 ·cases i <;> exact a.w
 ·cases i
  ·exact (hl true).symm
  ·exact hl false
 ·cases i
  ·exact (hr true).symm
  ·exact hr false
end
set_option genCtorIdx false in
structure CS where
 begun:Int
 op:Option (Int×Key×W)
 closed:List (Int×Int)
noncomputable def opV:Option (Int×Key×W)→V
 | none=>.none
 | some p=>.tup [.int p.1,.str p.2.1,wv p.2.2]
noncomputable def bj (p:Int×Int):V:=.tup [.int p.1,.int p.2]
noncomputable def k5 (i:Nat) (c:CS):MObj:=.inst 2 [(0,.int i),(1,.int c.begun),(2,opV c.op),(3,.ref (8,i))]
set_option genCtorIdx false in
structure WS where
 nc:Nat
 h:Bool→HS
 c:Nat→CS
 post:List Letter
 rows:List LRow
noncomputable def zk (nc:Nat):List V:=(List.range nc).map fun (i:Nat)=>.ref (3,i)
noncomputable def zws (ks:List Key) (nc:Nat):MObj:=.inst 0 [(8,.lst (ks.map .str)),(9,.lst [.ref (2,0),.ref (2,1)]),(10,.lst (zk nc)),(11,.ref (9,0)),(12,.ref (10,0))]
set_option genCtorIdx false in
structure WAt (s:MS) (ks:List Key) (W:WS) (x:Bool→HIx):Prop where
 o:s.heap (1,0)=some (zws ks W.nc)
 hh:HH s x W.h
 co:∀ i,i < W.nc→s.heap (3,i)=some (k5 i (W.c i))
 cl:∀ i,i < W.nc→s.heap (8,i)=some (.list ((W.c i).closed.map bj))
 po:s.heap (9,0)=some (.list (W.post.map qp))
 ro:s.heap (10,0)=some (.list (W.rows.map xt))
 i1:0 < s.cnt 1
 i3:W.nc≤s.cnt 3
 i8:W.nc≤s.cnt 8
 i9:0 < s.cnt 9
 i10:0 < s.cnt 10
noncomputable def vw (f:Nat→CS) (i:Nat) (v:CS):Nat→CS:=fun k=>if k=i then v else f k
noncomputable def NW (l:Lbl):Prop:=11≤l.1
section
variable {s s':MS}{ks:List Key}{W:WS}{x:Bool→HIx}
theorem zut {l:Lbl} (h:NW l):NH l:=by
 have h:11≤l.1:=h
 exact ⟨by lia,by lia,by lia,by lia,by lia⟩
theorem WAt.step (a:WAt s ks W x) (f:Fr NW s s'):WAt s' ks W x where
 o:=(f.1 (1,0) a.i1 (of_decide_eq_true (p:=¬ 11≤1) rfl)).trans a.o
 hh:=a.hh.step (f.mono fun _=>zut)
 co i hi:=(f.1 (3,i) (Nat.lt_of_lt_of_le hi a.i3) (of_decide_eq_true (p:=¬ 11≤3) rfl)).trans (a.co i hi)
 cl i hi:=(f.1 (8,i) (Nat.lt_of_lt_of_le hi a.i8) (of_decide_eq_true (p:=¬ 11≤8) rfl)).trans (a.cl i hi)
 po:=(f.1 (9,0) a.i9 (of_decide_eq_true (p:=¬ 11≤9) rfl)).trans a.po
 ro:=(f.1 (10,0) a.i10 (of_decide_eq_true (p:=¬ 11≤10) rfl)).trans a.ro
 i1:=Nat.lt_of_lt_of_le a.i1 (f.2 _)
 i3:=Nat.le_trans a.i3 (f.2 _)
 i8:=Nat.le_trans a.i8 (f.2 _)
 i9:=Nat.lt_of_lt_of_le a.i9 (f.2 _)
 i10:=Nat.lt_of_lt_of_le a.i10 (f.2 _)
noncomputable def HO (l:Lbl):Prop:=l.1=2∨l.1=4∨l.1=5∨l.1=6∨l.1=7
theorem WAt.houses (a:WAt s ks W x) (f:Fr HO s s') {x':Bool→HIx}{h':Bool→HS} (hh:HH s' x' h'):WAt s' ks { W with h:=h' } x' where
 o:=(f.1 (1,0) a.i1 (of_decide_eq_true (p:=¬ (1=2∨1=4∨1=5∨1=6∨1=7)) rfl)).trans a.o
 hh:=hh
 co i hi:=(f.1 (3,i) (Nat.lt_of_lt_of_le hi a.i3) (of_decide_eq_true (p:=¬ (3=2∨3=4∨3=5∨3=6∨3=7)) rfl)).trans (a.co i hi)
 cl i hi:=(f.1 (8,i) (Nat.lt_of_lt_of_le hi a.i8) (of_decide_eq_true (p:=¬ (8=2∨8=4∨8=5∨8=6∨8=7)) rfl)).trans (a.cl i hi)
 po:=(f.1 (9,0) a.i9 (of_decide_eq_true (p:=¬ (9=2∨9=4∨9=5∨9=6∨9=7)) rfl)).trans a.po
 ro:=(f.1 (10,0) a.i10 (of_decide_eq_true (p:=¬ (10=2∨10=4∨10=5∨10=6∨10=7)) rfl)).trans a.ro
 i1:=Nat.lt_of_lt_of_le a.i1 (f.2 _)
 i3:=Nat.le_trans a.i3 (f.2 _)
 i8:=Nat.le_trans a.i8 (f.2 _)
 i9:=Nat.lt_of_lt_of_le a.i9 (f.2 _)
 i10:=Nat.lt_of_lt_of_le a.i10 (f.2 _)
theorem zo6 {i:Nat}{y:HIx} (f:Fr (HF i y) s s'):Fr HO s s':=f.mono fun l q=>by
 rcases q with rfl | rfl | rfl | rfl | rfl
 ·exact .inl rfl
 ·exact .inr (.inl rfl)
 ·exact .inr (.inr (.inl rfl))
 ·exact .inr (.inr (.inr (.inl rfl)))
 ·exact .inr (.inr (.inr (.inr rfl)))
theorem zo0 {i:Nat} (f:Fr (At1 (2,i)) s s'):Fr HO s s':=f.mono fun l q=>.inl (congrArg Prod.fst (show l=(2,i) from q))
theorem cf {l:Lbl} (h:NH l) (o:MObj):Fr NH s (s.put l o):=(Fr.refl _ _).put h o
theorem WAt.setPost (a:WAt s ks W x) (l:List Letter):WAt (s.put (9,0) (.list (l.map qp))) ks { W with post:=l } x :=
 ⟨(zo (ze (by decide))).trans a.o,a.hh.step (cf (l:=(9,0)) (of_decide_eq_true (p:=9≠2∧9≠4∧9≠5∧9≠6∧9≠7) rfl) _),fun i hi=>(zo (ze (by decide))).trans (a.co i hi),fun i hi=>(zo (ze (by decide))).trans (a.cl i hi),zm _ _ _,(zo (ze (by decide))).trans a.ro,a.i1,a.i3,a.i8,a.i9,a.i10⟩
theorem WAt.setCaller (a:WAt s ks W x) (i:Nat) (c:CS) (hc:c.closed=(W.c i).closed):WAt (s.put (3,i) (k5 i c)) ks { W with c:=vw W.c i c } x:=by
 refine ⟨(zo (ze (by decide))).trans a.o,a.hh.step (cf (l:=(3,i)) (of_decide_eq_true (p:=3≠2∧3≠4∧3≠5∧3≠6∧3≠7) rfl) _),fun k hk=>?_,fun k hk=>?_,(zo (ze (by decide))).trans a.po,(zo (ze (by decide))).trans a.ro,a.i1,a.i3,a.i8,a.i9,a.i10⟩
 ·show (s.put (3,i) (k5 i c)).heap (3,k)=some (k5 k (if k=i then c else W.c k))
  by_cases e:k=i
  ·subst e; rw [if_pos rfl]; exact zm _ _ _
  ·rw [if_neg e]; exact (zo fun q=>e (congrArg Prod.snd q)).trans (a.co k hk)
 ·show (s.put (3,i) (k5 i c)).heap (8,k)=some (.list (List.map bj (if k=i then c else W.c k).closed))
  refine ((zo (ze (by decide))).trans (a.cl k hk)).trans ?_
  by_cases e:k=i
  ·rw [if_pos e,hc,e]
  ·rw [if_neg e]
end
section
variable {P:Prog} (H:WorldP P) {n:Nat}{s:MS}{ks:List Key}{W:WS}{x:Bool→HIx}{i:Nat}
theorem zi7 {C:Calls}{l:Loc}{a b c:E}{o o2:Cop}{x y z v:V} (ha:ev P C a l s=.ok x s) (hb:ev P C b l s=.ok y s) (h1:cmpOp o x y s=.ok (.bool true) s) (hc:ev P C c l s=.ok z s) (h2:cmpOp o2 y z s=.ok v s):ev P C (.cmp2 a o b o2 c) l s=.ok v s:=by
 rw [sh,ha]
 show Res.bind (ev P C b l s) _=_
 rw [hb]
 show Res.bind (cmpOp o x y s) _=_
 rw [h1]
 show Res.bind (ev P C c l s) _=_
 rw [hc]; exact h2
theorem zde {C:Calls}{l:Loc}{a b c:E}{x y z:Int} (ha:ev P C a l s=.ok (.int x) s) (hb:ev P C b l s=.ok (.int y) s) (hc:ev P C c l s=.ok (.int z) s) (h1:x≤y) (h2:y < z):ev P C (.cmp2 a .le b .lt c) l s=.ok (.bool true) s :=
 zi7 ha hb (congrArg (fun q=>Res.ok (V.bool q) s) (decide_eq_true h1)) hc (congrArg (fun q=>Res.ok (V.bool q) s) (decide_eq_true h2))
theorem fg {C:Calls}{l:Loc}{a b c:E}{x y z:Int} (ha:ev P C a l s=.ok (.int x) s) (hb:ev P C b l s=.ok (.int y) s) (hc:ev P C c l s=.ok (.int z) s) (h1:x≤y) (h2:y≤z):ev P C (.cmp2 a .le b .le c) l s=.ok (.bool true) s :=
 zi7 ha hb (congrArg (fun q=>Res.ok (V.bool q) s) (decide_eq_true h1)) hc (congrArg (fun q=>Res.ok (V.bool q) s) (decide_eq_true h2))
theorem me (nc:Nat):(zk nc).length=nc:=by rw [zk,List.length_map,List.length_range]
theorem zdh {nc:Nat} (hi:i < nc) (s:MS):getItem (.lst (zk nc)) (.int i) s=.ok (.ref (3,i)) s:=by
 have h:i < (zk nc).length:=by rw [me]; exact hi
 refine (eu (s:=s) (a:=.lst (zk nc)) (k:=true) rfl i h).trans ?_
 congr 1
 rw [show (zk nc)[i]=V.ref (3,(List.range nc)[i]'(by rw [List.length_range]; exact hi)) from List.getElem_map ..,List.getElem_range]
theorem zd4 {key:Key} (s:MS):∀ {ks:List Key},key∈ks→vin s (.str key) (ks.map .str)=some true
 | k :: ks,h=>by
  have e:vin s (.str key) ((k :: ks).map .str)=(match some (decide (k=key)),vin s (.str key) (ks.map .str) with | some p,some q=>some (p || q) | _,_=>none):=rfl
  rw [e]
  by_cases hk:k=key
  ·have:∀ l:List Key,∃ q,vin s (.str key) (l.map .str)=some q:=fun l=>by
    induction l with
    | nil=>exact ⟨false,rfl⟩
    | cons a l ih =>
     obtain ⟨q,hq⟩:=ih
     refine ⟨decide (a=key) || q,?_⟩
     show (match some (decide (a=key)),vin s (.str key) (l.map .str) with | some p,some q=>some (p || q) | _,_=>none)=_
     rw [hq]
   obtain ⟨q,hq⟩:=this ks
   rw [hq,decide_eq_true hk]; rfl
  ·rw [zd4 s ((List.mem_cons.1 h).resolve_left fun q=>hk q.symm)]
   show some (_ || true)=_
   rw [Bool.or_true]
include H
theorem yd (n:Nat) (i:Int) (s:MS):run P (n + 1) 0 [.int i] s=.ok (.bool true) s:=qm (zl H.whole rfl (qa rfl ⟨rfl,rfl⟩))
theorem yv (n:Nat) (a:WAt s ks W x) (hi:i < W.nc):run P (n + 2) 41 [.ref (1,0),.int i] s=.ok .none s:=by
 obtain ⟨xc,hf⟩:=H.ncal
 refine qm (zl hf rfl ?_)
 have hw:=yd H n i s
 exact zt (t:=false) (s':=s) (kg (kq (t:=true) (jt (vs:=[.int i]) rfl hw)) (v6 (kq (t:=true) (zde (x:=0) (y:=i) (z:=(zk W.nc).length) rfl rfl (yn (z5 (zu rfl (qd a.o rfl)) rfl) rfl) (by lia) (by rw [me]; lia))))) (zi (zz ⟨rfl,rfl⟩))
theorem x7 (n:Nat) (b:Bool) (s:MS):run P (n + 2) 42 [.ref (1,0),.int (hn b)] s=.ok .none s:=by
 obtain ⟨xc,hf⟩:=H.nhou
 refine qm (zl hf rfl ?_)
 have hw:=yd H n (hn b) s
 exact zt (t:=false) (s':=s) (kg (kq (t:=true) (jt (vs:=[.int (hn b)]) rfl hw)) (v6 (kq (t:=true) (zde (x:=0) (y:=hn b) (z:=2) rfl rfl rfl (by cases b <;> decide) (by cases b <;> decide))))) (zi (zz ⟨rfl,rfl⟩))
theorem cu (n:Nat) (a:WAt s ks W x) {key:Key} (hk:key∈ks):run P (n + 1) 43 [.ref (1,0),.str key] s=.ok .none s:=by
 obtain ⟨xc,hf⟩:=H.nkey
 refine qm (zl hf rfl ?_)
 refine zt (t:=false) (s':=s) (kg rfl (v6 (xg rfl (zu rfl (qd a.o rfl)) ?_))) (zi (zz ⟨rfl,rfl⟩))
 show okB s ((vin s (.str key) (ks.map .str)).map (!·))=_
 rw [zd4 s hk]; rfl
theorem bx (n:Nat) (a:WAt s ks W x) {p:Nat} (hp:p < W.post.length):run P (n + 2) 44 [.ref (1,0),.int p] s=.ok .none s:=by
 obtain ⟨xc,hf⟩:=H.npla
 refine qm (zl hf rfl ?_)
 have hw:=yd H n p s
 exact zt (t:=false) (s':=s) (kg (kq (t:=true) (jt (vs:=[.int p]) rfl hw)) (v6 (kq (t:=true) (zde (x:=0) (y:=p) (z:=(W.post.map qp).length) rfl rfl (yn (z5 (zu rfl (qd a.o rfl)) rfl) (bg (jm a.po))) (by lia) (by rw [List.length_map]; lia))))) (zi (zz ⟨rfl,rfl⟩))
theorem vo (n:Nat) (a:WAt s ks W x) (hi:i < W.nc):run P (n + 1) 14 [.ref (3,i)] s=.ok (opV (W.c i).op) s :=
 qm (zl H.cask rfl (qa (zu rfl (qd (a.co i hi) rfl)) ⟨rfl,rfl⟩))
theorem uy (n:Nat) (a:WAt s ks W x) (hi:i < W.nc) {p:Int×Key×Mine.W} (hp:(W.c i).op=some p) (b:Bool):run P (n + 1) 12 [.ref (3,i),.int (hn b)] s=.ok (qp (.call (hn b) i p.1 p.2.1 p.2.2)) s:=by
 have ho:=a.co i hi
 refine qm (zl H.clet rfl ?_)
 refine zn (v:=.tup [.int p.1,.str p.2.1,wv p.2.2]) (s':=s) (zu rfl (qd ho (congrArg (fun q=>some (opV q)) hp))) rfl ?_
 exact qa (by (repeat' first | exact rfl | apply zu | apply ff | apply z5 | exact qd (by assumption) rfl)) ⟨rfl,rfl⟩
omit H
theorem zb1 {C:Calls}{l:Loc}{a b:E} (A:WAt s ks W x) (hi:i < W.nc) (ha:ev P C a l s=.ok (.ref (1,0)) s) (hb:ev P C b l s=.ok (.int i) s):ev P C (.sub (.attr a 10) b) l s=.ok (.ref (3,i)) s :=
 kh (zu ha (qd A.o rfl)) hb (zdh hi s)
theorem zg6 (b:Bool) (s:MS):getItem (.lst [.ref (2,0),.ref (2,1)]) (.int (hn b)) s=.ok (.ref (2,hx b)) s:=by cases b <;> rfl
theorem gj {C:Calls}{l:Loc}{a e:E}{b:Bool} (A:WAt s ks W x) (ha:ev P C a l s=.ok (.ref (1,0)) s) (hb:ev P C e l s=.ok (.int (hn b)) s):ev P C (.sub (.attr a 9) e) l s=.ok (.ref (2,hx b)) s :=
 kh (zu ha (qd A.o rfl)) hb (zg6 b s)
theorem WAt.post1 (a:WAt s ks W x) (L:Letter):WAt (s.put (9,0) (.list (W.post.map qp ++ [qp L]))) ks { W with post:=W.post ++ [L] } x:=by
 have:=a.setPost (W.post ++ [L])
 rwa [List.map_append] at this
noncomputable def NWp (l:Lbl):Prop:=l.1 < 11
theorem u5 {l:Lbl} (h:l.1 < 11) (o:MObj):Fr NWp s (s.put l o):=(Fr.refl _ _).put h o
include H
theorem zg8 (hf:P.fns 11=some f_Caller_begin) (n:Nat) (a:WAt s ks W x) (hi:i < W.nc) (key:Key) (w:Mine.W) :
  ∃ u,run P (n + 1) 11 [.ref (3,i),.str key,wv w] s=.ok (.int ((W.c i).begun + 1)) u∧WAt u ks { W with c:=vw W.c i ⟨(W.c i).begun + 1,some ((W.c i).begun + 1,key,w),(W.c i).closed⟩ } x∧Fr NWp s u:=by
 have ho:=a.co i hi
 have h1:(s.put (3,i) (k5 i ⟨(W.c i).begun + 1,(W.c i).op,(W.c i).closed⟩)).heap (3,i)=some (k5 i ⟨(W.c i).begun + 1,(W.c i).op,(W.c i).closed⟩):=zm _ _ _
 have f1:Fr NWp s (s.put (3,i) (k5 i ⟨(W.c i).begun + 1,(W.c i).op,(W.c i).closed⟩)):=u5 (of_decide_eq_true (p:=3 < 11) rfl) _
 have a1:=a.setCaller i ⟨(W.c i).begun + 1,(W.c i).op,(W.c i).closed⟩ rfl
 refine ⟨(s.put (3,i) (k5 i ⟨(W.c i).begun + 1,(W.c i).op,(W.c i).closed⟩)).put (3,i) (k5 i ⟨(W.c i).begun + 1,some ((W.c i).begun + 1,key,w),(W.c i).closed⟩),qm (zl hf rfl ?_),?_,f1.put (of_decide_eq_true (p:=3 < 11) rfl) _⟩
 ·refine z8 (v:=.int ((W.c i).begun + 1)) (s':=s.put (3,i) (k5 i ⟨(W.c i).begun + 1,(W.c i).op,(W.c i).closed⟩)) (by (repeat' first | exact rfl | apply zu | apply vp | exact qd (by assumption) rfl)) rfl (xj 1 _ ho rfl) ?_
  generalize s.put (3,i) (k5 i ⟨(W.c i).begun + 1,(W.c i).op,(W.c i).closed⟩)=t at h1
  refine z8 (v:=opV (some ((W.c i).begun + 1,key,w))) (s':=t.put (3,i) (k5 i ⟨(W.c i).begun + 1,some ((W.c i).begun + 1,key,w),(W.c i).closed⟩)) (by (repeat' first | exact rfl | apply zu | apply ff | apply z5 | exact qd (by assumption) rfl)) rfl (xj 2 _ h1 rfl) ?_
  have h2:(t.put (3,i) (k5 i ⟨(W.c i).begun + 1,some ((W.c i).begun + 1,key,w),(W.c i).closed⟩)).heap (3,i)=some (k5 i ⟨(W.c i).begun + 1,some ((W.c i).begun + 1,key,w),(W.c i).closed⟩):=zm _ _ _
  exact qa (by (repeat' first | exact rfl | apply zu | exact qd (by assumption) rfl)) ⟨rfl,rfl⟩
 ·have a2:=a1.setCaller i ⟨(W.c i).begun + 1,some ((W.c i).begun + 1,key,w),(W.c i).closed⟩ (by show _=(if i=i then _ else _:CS).closed; rw [if_pos rfl])
  have e:vw (vw W.c i ⟨(W.c i).begun + 1,(W.c i).op,(W.c i).closed⟩) i ⟨(W.c i).begun + 1,some ((W.c i).begun + 1,key,w),(W.c i).closed⟩=vw W.c i ⟨(W.c i).begun + 1,some ((W.c i).begun + 1,key,w),(W.c i).closed⟩:=by
   funext k
   show (if k=i then _ else if k=i then _ else W.c k)=if k=i then _ else W.c k
   split <;> rfl
  exact e ▸ a2
theorem ze9 {xc yc:Nat} (hb:P.fns 11=some f_Caller_begin) (hw:P.fns 1=some (f_need_wish yc)) (hf:P.fns 45=some (f_World_call xc)) (n:Nat) (a:WAt s ks W x) (hi:i < W.nc) (b:Bool) {key:Key} (hk:key∈ks) {w:Mine.W} (hn1:run P (n + 2) 1 [wv w] s=.ok .none s) (ho:(W.c i).op=none) (hz:W.post.length < 16777000) :
  ∃ u,run P (n + 3) 45 [.ref (1,0),.int i,.int (hn b),.str key,wv w] s=.ok (.int ((W.c i).begun + 1)) u ∧
   WAt u ks { W with c:=vw W.c i ⟨(W.c i).begun + 1,some ((W.c i).begun + 1,key,w),(W.c i).closed⟩,post:=W.post ++ [.call (hn b) i ((W.c i).begun + 1) key w] } x∧Fr NWp s u:=by
 have hco:=a.co i hi
 obtain ⟨t,e1,a1,f1⟩:=zg8 H hb (n + 1) a hi key w
 have hco1:=a1.co i hi
 have hlet:=uy H (n + 1) a1 hi (p:=((W.c i).begun + 1,key,w)) (by show (if i=i then _ else _:CS).op=_; rw [if_pos rfl]) b
 have hll:(W.post.map qp).length < 16777216:=by rw [List.length_map]; lia
 refine ⟨t.put (9,0) (.list (W.post.map qp ++ [qp (.call (hn b) i ((W.c i).begun + 1) key w)])),qm (zl hf rfl ?_),a1.post1 _,f1.put (of_decide_eq_true (p:=9 < 11) rfl) _⟩
 refine qc (zr (vs:=[.int i]) rfl ((zg a.o).trans H.m13) rfl (yv H n a hi)) ?_
 refine qc (zr (vs:=[.int (hn b)]) rfl ((zg a.o).trans H.m14) rfl (x7 H n b s)) ?_
 refine qc (zr (vs:=[.str key]) rfl ((zg a.o).trans H.m15) rfl (cu H (n + 1) a hk)) ?_
 refine qc (jt (vs:=[wv w]) rfl hn1) ?_
 refine zt (t:=false) (yu (g:=true) (t:=true) (zr (zb1 a hi rfl rfl) ((zg hco).trans H.c11) rfl (vo H (n + 1) a hi)) (by rw [ho]; exact decide_eq_true rfl)) (zi ?_)
 refine zn (zr (vs:=[.str key,wv w]) (zb1 a hi rfl rfl) ((zg hco).trans H.c9) rfl e1) rfl ?_
 refine qc (v:=.none) (p3 (x:=.ref (9,0)) (zu rfl (qd a1.o rfl)) (xr a1.po) (z5 (zr (vs:=[.int (hn b)]) (zb1 a1 hi rfl rfl) ((zg hco1).trans H.c10) rfl hlet) rfl) (kb _ _ _ _ a1.po hll)) ?_
 exact qa rfl ⟨rfl,rfl⟩
theorem zcu {xc:Nat} (hf:P.fns 46=some (f_World_again xc)) (n:Nat) (a:WAt s ks W x) (hi:i < W.nc) (b:Bool) {p:Int×Key×Mine.W} (ho:(W.c i).op=some p) (hz:W.post.length < 16777000) :
  ∃ u,run P (n + 3) 46 [.ref (1,0),.int i,.int (hn b)] s=.ok .none u∧WAt u ks { W with post:=W.post ++ [.call (hn b) i p.1 p.2.1 p.2.2] } x∧Fr NWp s u:=by
 have hco:=a.co i hi
 have hlet:=uy H (n + 1) a hi ho b
 have hll:(W.post.map qp).length < 16777216:=by rw [List.length_map]; lia
 refine ⟨s.put (9,0) (.list (W.post.map qp ++ [qp (.call (hn b) i p.1 p.2.1 p.2.2)])),qm (zl hf rfl ?_),a.post1 _,u5 (of_decide_eq_true (p:=9 < 11) rfl) _⟩
 refine qc (zr (vs:=[.int i]) rfl ((zg a.o).trans H.m13) rfl (yv H n a hi)) ?_
 refine qc (zr (vs:=[.int (hn b)]) rfl ((zg a.o).trans H.m14) rfl (x7 H n b s)) ?_
 refine zt (t:=false) (yu (g:=false) (t:=false) (zr (zb1 a hi rfl rfl) ((zg hco).trans H.c11) rfl (vo H (n + 1) a hi)) (by rw [ho]; exact decide_eq_false nofun)) (zi ?_)
 exact qc (v:=.none) (p3 (x:=.ref (9,0)) (zu rfl (qd a.o rfl)) (xr a.po) (z5 (zr (vs:=[.int (hn b)]) (zb1 a hi rfl rfl) ((zg hco).trans H.c10) rfl hlet) rfl) (kb _ _ _ _ a.po hll)) (zz ⟨rfl,rfl⟩)
theorem mt (hf:P.fns 59=some f_World_asking) (n:Nat) (a:WAt s ks W x) (hi:i < W.nc):run P (n + 3) 59 [.ref (1,0),.int i] s=.ok (opV (W.c i).op) s:=by
 refine qm (zl hf rfl ?_)
 refine qc (zr (vs:=[.int i]) rfl ((zg a.o).trans H.m13) rfl (yv H n a hi)) ?_
 exact qa (zr (zb1 a hi rfl rfl) ((zg (a.co i hi)).trans H.c11) rfl (vo H (n + 1) a hi)) ⟨rfl,rfl⟩
theorem rx (hc:P.fns 15=some f_Caller_answers) (hm:P.meths 2 12=some 15) (hf:P.fns 60=some f_World_answers) (n:Nat) (a:WAt s ks W x) (hi:i < W.nc):run P (n + 3) 60 [.ref (1,0),.int i] s=.ok (.ref (13,s.cnt 13)) (s.new 13 (.list ((W.c i).closed.map bj))):=by
 have hans:run P (n + 2) 15 [.ref (3,i)] s=.ok (.ref (13,s.cnt 13)) (s.new 13 (.list ((W.c i).closed.map bj))):=qm (zl hc rfl (qa (s6 (zu rfl (qd (a.co i hi) rfl)) (jm (a.cl i hi))) ⟨rfl,rfl⟩))
 refine qm (zl hf rfl ?_)
 refine qc (zr (vs:=[.int i]) rfl ((zg a.o).trans H.m13) rfl (yv H n a hi)) ?_
 exact qa (zr (zb1 a hi rfl rfl) ((zg (a.co i hi)).trans hm) rfl hans) ⟨rfl,rfl⟩
theorem wt (hf:P.fns 47=some f_World_letters) (n:Nat) (a:WAt s ks W x):run P (n + 1) 47 [.ref (1,0)] s=.ok (.ref (11,s.cnt 11)) (s.new 11 (.list (W.post.map qp))) :=
 qm (zl hf rfl (qa (s6 (zu rfl (qd a.o rfl)) (jm a.po)) ⟨rfl,rfl⟩))
theorem uo (hf:P.fns 58=some f_World_ledger) (n:Nat) (a:WAt s ks W x):run P (n + 1) 58 [.ref (1,0)] s=.ok (.ref (12,s.cnt 12)) (s.new 12 (.list (W.rows.map xt))) :=
 qm (zl hf rfl (qa (s6 (zu rfl (qd a.o rfl)) (jm a.ro)) ⟨rfl,rfl⟩))
omit H
theorem zk5 (s:MS) (r:Lbl) (l:List V) (p:Nat) (h:s.heap r=some (.list l)) (hp:p < l.length):bq .pop (.ref r) [.int p] s=.ok l[p] (s.put r (.list (l.eraseIdx p))):=by
 show (match kt (.ref r) s with | some q=>(match idx (p:Int) q.2.length with | some j=>(match q.2[j]? with | some v=>Res.ok v (s.put q.1 (.list (q.2.eraseIdx j))) | none=>.stuck) | none=>.stuck) | none=>.stuck)=_
 rw [tz h]
 show (match idx (p:Int) l.length with | some j=>(match l[j]? with | some v=>Res.ok v (s.put r (.list (l.eraseIdx j))) | none=>.stuck) | none=>.stuck)=_
 rw [zij (by lia) (by lia)]
 show (match l[p]? with | some v=>Res.ok v (s.put r (.list (l.eraseIdx p))) | none=>.stuck)=_
 rw [List.getElem?_eq_getElem hp]
theorem zet {p:Nat} (hp:p < W.post.length):(W.post.map qp)[p]'(by rw [List.length_map]; exact hp)=qp W.post[p]:=List.getElem_map ..
theorem tc {α:Type} (f:α→V):∀ (l:List α) (p:Nat),(l.map f).eraseIdx p=(l.eraseIdx p).map f
 | [],_=>rfl
 | _ :: _,0=>rfl
 | a :: l,p + 1=>congrArg (f a :: ·) (tc f l p)
theorem WAt.pop (a:WAt s ks W x) (p:Nat):WAt (s.put (9,0) (.list ((W.post.map qp).eraseIdx p))) ks { W with post:=W.post.eraseIdx p } x:=by
 rw [tc]; exact a.setPost _
noncomputable def x6 (b:Bool):Letter→Prop
 | .call h _ _ _ _=>h=hn b
 | .parcel h _ _ _ _=>h=hn b
 | .taken h _ _=>h=hn b
 | .answer _ _ _=>False
theorem zif {b:Bool}{L:Letter} (hL:x6 b L) (s:MS):getItem (qp L) (.int 1) s=.ok (.int (hn b)) s:=by
 cases L with
 | answer=>exact hL.elim
 | call=>rw [← show _=hn b from hL]; rfl
 | parcel=>rw [← show _=hn b from hL]; rfl
 | taken=>rw [← show _=hn b from hL]; rfl
theorem zff {b:Bool}{L:Letter} (hL:x6 b L) {C:Calls}{l0:V} (s:MS):ev P C (.cmp (.sub (.loc 1) (.int 0)) .eq (.str [97,110,115,119,101,114])) [some l0,some (qp L)] s=.ok (.bool false) s:=by
 cases L with
 | answer=>exact hL.elim
 | call=>rfl
 | parcel=>rfl
 | taken=>rfl
theorem ziu {u:MS}{j:Nat}{y:HIx} (f:Fr (HF j y) s u):Fr NWp s u:=f.mono fun l q=>by
 rcases q with rfl | rfl | rfl | rfl | rfl
 ·exact of_decide_eq_true (p:=2 < 11) rfl
 ·exact of_decide_eq_true (p:=4 < 11) rfl
 ·exact of_decide_eq_true (p:=5 < 11) rfl
 ·exact of_decide_eq_true (p:=6 < 11) rfl
 ·exact of_decide_eq_true (p:=7 < 11) rfl
theorem zjh {u:MS}{j:Nat} (f:Fr (At1 (2,j)) s u):Fr NWp s u:=f.mono fun l q=>by
 rw [show l=(2,j) from q]; exact of_decide_eq_true (p:=2 < 11) rfl
include H
theorem uu (HP:HouseP P) (n:Nat) (a:WAt s ks W x) {b:Bool}{L:Letter} (hL:x6 b L) (z:HZ (W.h b)) (km:KOk (W.h b).known) (hk:LOk (W.h b) L) :
  OkR (run P (n + 4) 48 [.ref (1,0),qp L] s) fun v u=>v=.none∧WAt u ks { W with h:=upd W.h b ((W.h b).came L) } x∧Fr NWp s u:=by
 refine zl H.brou rfl (zt (t:=false) (zff hL s) ?_)
 refine j3 (jn (vs:=[qp L]) (gj a rfl (kh (x:=qp L) (y:=.int 1) rfl rfl (zif hL s))) ((zg (a.hh.at_ b).o).trans HP.mcame) rfl (zi6 HP n (a.hh.at_ b) z km L hk)) ?_
 rintro v u ⟨rfl,h1,h2⟩
 exact zi (zz ⟨rfl,a.houses (zo6 h2) (a.hh.deed h1 h2),ziu h2⟩)
theorem zjb (hf:P.fns 51=some f_World_lose) (n:Nat) (a:WAt s ks W x) {p:Nat} (hp:p < W.post.length) :
  ∃ u,run P (n + 3) 51 [.ref (1,0),.int p] s=.ok .none u∧WAt u ks { W with post:=W.post.eraseIdx p } x∧Fr NWp s u:=by
 have hp':p < (W.post.map qp).length:=by rw [List.length_map]; exact hp
 refine ⟨_,qm (zl hf rfl ?_),a.pop p,u5 (of_decide_eq_true (p:=9 < 11) rfl) _⟩
 refine qc (zr (vs:=[.int p]) rfl ((zg a.o).trans H.m16) rfl (bx H n a hp)) ?_
 exact qc (p3 (x:=.ref (9,0)) (vs:=[.int p]) (zu rfl (qd a.o rfl)) (xr a.po) rfl (zk5 s (9,0) _ p a.po hp')) (zz ⟨rfl,rfl⟩)
theorem zdk (HP:HouseP P) (hs:P.fns 28=some f_House_sleep) (hm:P.meths 1 7=some 28) (hf:P.fns 56=some f_World_sleep) (n:Nat) (a:WAt s ks W x) (b:Bool) (z:HZ (W.h b)) :
  OkR (run P (n + 3) 56 [.ref (1,0),.int (hn b)] s) fun v u=>v=.none∧(∃ x',WAt u ks { W with h:=upd W.h b (W.h b).sleep } x')∧Fr NWp s u:=by
 refine zl hf rfl ?_
 refine qc (zr (vs:=[.int (hn b)]) rfl ((zg a.o).trans H.m14) rfl (x7 H n b s)) ?_
 refine j3 (jn (vs:=[]) (gj a rfl rfl) ((zg (a.hh.at_ b).o).trans hm) rfl (zgp HP hs (n + 1) (a.hh.at_ b) z)) ?_
 rintro v u ⟨rfl,h1,h2⟩
 exact zz ⟨rfl,⟨_,a.houses (zo0 h2) (a.hh.slept h1 h2)⟩,zjh h2⟩
end
end Mine
end
section
namespace Mine
section
variable {P:Prog} (H:WorldP P) {n:Nat}{s:MS}{ks:List Key}
set_option genCtorIdx false in
structure KeyFine (k:Key):Prop where
 pos:1≤k.length
 eig:k.length≤8
 abc:∀ c∈k,97≤c∧c≤122
theorem zm8:∀ i:Fin 26,abc.contains (97 + i.1)=true:=by decide
theorem zn2 {c:Nat} (h:97≤c∧c≤122):c∈abc:=by
 have:=zm8 ⟨c - 97,by omega⟩
 rw [show 97 + (⟨c - 97,by omega⟩:Fin 26).1=c from by show 97 + (c - 97)=c; omega] at this
 exact List.contains_iff_mem.1 this
theorem zn7 {k:Key} (h:∀ c∈k,97≤c∧c≤122):k.all (fun c=>decide (c < 128))=true:=List.all_eq_true.2 fun c hc=>decide_eq_true (by have:=h c hc; lia)
theorem zds (hf:P.fns 4=some f_is_key) (n:Nat) {k:Key} (h:KeyFine k) (s:MS):run P (n + 1) 4 [.str k] s=.ok (.bool true) s:=by
 have hp:=h.pos
 have he:=h.eig
 refine qm (zl hf rfl ?_)
 have hl:ev P (run P n) (.prim .len [.loc 0]) [some (.str k),none] s=.ok (.int k.length) s:=yn (vs:=[.str k]) rfl (if_pos (by show _≤16777216; lia))
 refine zt (t:=false) (s':=s) (kg rfl (v6 (kq (t:=true) (fg (x:=1) (y:=k.length) (z:=8) rfl hl rfl (by lia) (by lia))))) (zi ?_)
 refine vx (v:=.str k) (s':=s) (xs:=k.map fun c=>.str [c]) rfl (if_pos (zn7 h.abc)) rfl (ax (fun rem l u=>u=s∧(∀ v∈rem,∃ c,v=V.str [c]∧c∈abc)∧∃ a,l=[some (.str k),a]) ?_ ?_ _ _ _ ⟨rfl,fun v hv=>?_,_,rfl⟩)
 ·rintro v rem l u ⟨rfl,hv,a,rfl⟩
  obtain ⟨c,rfl,hc⟩:=hv v (List.mem_cons_self ..)
  refine ⟨rfl,?_⟩
  show OkR (exs P _ _ _ [some (.str k),some (.str [c])] u) _
  exact zt (t:=false) (congrArg (fun q=>Res.ok (V.bool (!q)) u) (decide_eq_true hc)) (zi (zz ⟨rfl,fun v hv'=>hv v (List.mem_cons_of_mem _ hv'),_,rfl⟩))
 ·rintro l u ⟨rfl,-,a,rfl⟩
  refine ⟨rfl,?_⟩
  rw [vd]
  exact qa rfl ⟨rfl,rfl⟩
 ·obtain ⟨c,hc,rfl⟩:=xh hv
  exact ⟨c,rfl,zn2 (h.abc c hc)⟩
theorem zad {key:Key} (s:MS):∀ {ks:List Key},key ∉ ks→vin s (.str key) (ks.map .str)=some false
 | [],_=>rfl
 | k :: ks,h=>by
  show (match some (decide (k=key)),vin s (.str key) (ks.map .str) with | some p,some q=>some (p || q) | _,_=>none)=_
  have e:¬ k=key:=fun q=>h (by rw [q]; exact List.mem_cons_self ..)
  rw [zad s fun q=>h (List.mem_cons_of_mem _ q),decide_eq_false e]; rfl
theorem zmj (l:List V) (i:Nat) (s:MS):xu (.lst l) none (some (.int i)) s=.ok (.lst (l.take i)) s:=by
 show (match some 0,(if (0:Int)≤i then some (i:Int).toNat else none) with | some i,some j=>Res.ok (V.lst ((l.take j).drop i)) s | _,_=>.stuck)=_
 rw [if_pos (Int.natCast_nonneg i)]; rfl
theorem db {key:Key}:∀ {ks:List Key}{i:Nat},ks.Nodup→ks[i]?=some key→key ∉ ks.take i
 | [],i,_,h=>by simp at h
 | a :: ks,0,_,_=>by rw [List.take_zero]; exact List.not_mem_nil
 | a :: ks,i + 1,nd,h=>by
  rw [List.nodup_cons] at nd
  rw [List.getElem?_cons_succ] at h
  rw [List.take_succ_cons]
  intro q
  rcases List.mem_cons.1 q with e | q
  ·exact nd.1 (e ▸ List.mem_of_getElem? h)
  ·exact db nd.2 h q
set_option genCtorIdx false in
structure KeysFine (ks:List Key):Prop where
 pos:1≤ks.length
 six:ks.length≤6
 nd:ks.Nodup
 all:∀ k∈ks,KeyFine k
include H
theorem fv {xc:Nat} (hk:P.fns 4=some f_is_key) (hf:P.fns 5=some (f_need_world xc)) (n:Nat) (K:KeysFine ks) {nc:Nat} (h1:1≤nc) (h6:nc≤6) (s:MS):run P (n + 2) 5 [.lst (ks.map .str),.int nc] s=.ok .none s:=by
 have hp:=K.pos
 have h6':=K.six
 have hw:=yd H n nc s
 refine qm (zl hf rfl ?_)
 have hl:(ks.map V.str).length=ks.length:=List.length_map ..
 refine zt (t:=false) (s':=s) (kg rfl (v6 (kq (t:=true) (fg (x:=1) (y:=(ks.map V.str).length) (z:=6) rfl rfl rfl (by lia) (by lia))))) (zi ?_)
 refine vx (v:=.int (ks.map V.str).length) (s':=s) (xs:=(List.range (ks.map V.str).length).map fun (i:Nat)=>.int i) rfl (j8 s _ (by lia) (by lia)) rfl (ax (fun rem l u=>u=s∧(∀ v∈rem,∃ i:Nat,v=V.int i∧i < ks.length)∧∃ a,l=[some (.lst (ks.map .str)),some (.int nc),a]) ?_ ?_ _ _ _ ⟨rfl,fun v hv=>?_,_,rfl⟩)
 ·rintro v rem l u ⟨rfl,hv,a,rfl⟩
  obtain ⟨i,rfl,hi⟩:=hv v (List.mem_cons_self ..)
  refine ⟨rfl,?_⟩
  show OkR (exs P _ _ _ [some (.lst (ks.map .str)),some (.int nc),some (.int i)] u) _
  have hi':i < (ks.map V.str).length:=by rw [hl]; exact hi
  have e1:=eu (s:=u) (a:=.lst (ks.map .str)) (k:=true) rfl i hi'
  rw [show (ks.map V.str)[i]=V.str ks[i] from List.getElem_map ..] at e1
  have e2:ev P (run P (n + 1)) (.sub (.loc 0) (.loc 2)) [some (.lst (ks.map .str)),some (.int nc),some (.int i)] u=.ok (.str ks[i]) u:=kh rfl rfl e1
  refine zt (t:=false) (s':=u) (kg (kq (t:=true) (jt (z5 e2 rfl) (zds hk n (K.all _ (List.getElem_mem _)) u))) (v6 (xg e2 (lx (x:=.lst (ks.map .str)) (y:=none) (z:=some (.int i)) rfl rfl rfl (zmj _ i u)) ?_))) (zi (zz ⟨rfl,fun v hv'=>hv v (List.mem_cons_of_mem _ hv'),_,rfl⟩))
  show okB u (vin u (.str ks[i]) ((ks.map .str).take i))=_
  rw [← List.map_take,zad u (db K.nd (List.getElem?_eq_getElem hi))]; rfl
 ·rintro l u ⟨rfl,-,a,rfl⟩
  refine ⟨rfl,?_⟩
  rw [vd]
  exact zt (t:=false) (s':=u) (kg (kq (t:=true) (jt (vs:=[.int nc]) rfl hw)) (v6 (kq (t:=true) (fg (x:=1) (y:=nc) (z:=6) rfl rfl rfl (by lia) (by lia))))) (zi (zz ⟨rfl,rfl⟩))
 ·obtain ⟨i,hi,rfl⟩:=xh hv
  rw [List.mem_range,hl] at hi
  exact ⟨i,rfl,hi⟩
omit H
theorem oe {C:Calls}{s₀:MS}{nc slot:Nat}{e:E}{l:Loc} (f:Nat→V) (I:Nat→MS→Prop) (hz:nc≤1000)
  (he:∀ j s,j < nc→I j s→OkR (ev P C e (l.set slot (some (.int j))) s) fun v t=>v=f j∧I (j + 1) t) :
  ∀ (m j:Nat) (s:MS),j + m=nc→I j s→OkR (compLoop s₀ true (.int nc) slot none (ev P C e) l ((List.range j).map f) ((List.range' j m).map fun (i:Nat)=>V.int i) s) fun vs t=>vs=(List.range nc).map f∧I nc t
 | 0,j,s,hj,h=>by
  have hj:j=nc:=hj
  subst hj
  rw [show (List.range' j 0).map (fun (i:Nat)=>V.int i)=[] from rfl,v8]
  exact ⟨rfl,h⟩
 | m + 1,j,s,hj,h=>by
  rw [List.range'_succ,List.map_cons,vh]
  show OkR (Res.bind (ev P C e (l.set slot (some (.int j))) s) _) _
  obtain ⟨v,t,e1,rfl,h1⟩:=qz (he j s (by lia) h)
  rw [e1]
  show OkR (if ((List.range j).map f).length < zf then _ else _) _
  rw [if_pos (by rw [List.length_map,List.length_range]; show _ < 16777216; lia)]
  have ih:=oe (s₀:=s₀) f I hz he m (j + 1) t (by lia) h1
  rw [List.range_succ,List.map_append] at ih
  exact ih
noncomputable def c0:CS:=⟨0,none,[]⟩
theorem wz {F:Lbl→Prop}{s':MS} (a:Fr F s s') {l:Lbl} (h:s.cnt l.1≤l.2) (o:MObj):Fr F s (s'.put l o) :=
 ⟨fun x hx n=>(zo fun (e:x=l)=>by rw [e] at hx; lia).trans (a.1 x hx n),a.2⟩
theorem zbr (hin:P.inits 2=some (3,10)) (hf:P.fns 10=some f_Caller_init) (n:Nat) {i:Nat} (h3:s.cnt 3=i) (h8:s.cnt 8=i) :
  ∃ u,xx P (run P (n + 1)) 2 [.int i] s=.ok (.ref (3,i)) u∧u.heap (3,i)=some (k5 i c0)∧u.heap (8,i)=some (.list [])∧Fr (fun _=>False) s u∧u.cnt 3=i + 1∧u.cnt 8=i + 1∧∀ k,k≠3→k≠8→u.cnt k=s.cnt k:=by
 subst h3
 have q0:(s.new 3 (.inst 2 [])).heap (3,s.cnt 3)=some (.inst 2 []):=zy _ _ _
 have f0:Fr (fun _=>False) s (s.new 3 (.inst 2 [])):=(Fr.refl _ _).new _ _
 have c3:(s.new 3 (.inst 2 [])).cnt 3=s.cnt 3 + 1:=rfl
 have ck:∀ k,k≠3→(s.new 3 (.inst 2 [])).cnt k=s.cnt k:=fun k hk=>if_neg hk
 have c8:=(ck 8 (by decide)).trans h8
 have ge:s.cnt 3≤s.cnt 3:=Nat.le_refl _
 have e:∃ u,run P (n + 1) 10 [.ref (3,s.cnt 3),.int (s.cnt 3)] (s.new 3 (.inst 2 []))=.ok .none u∧u.heap (3,s.cnt 3)=some (k5 (s.cnt 3) c0)∧u.heap (8,s.cnt 3)=some (.list [])∧Fr (fun _=>False) s u∧u.cnt 3=s.cnt 3 + 1∧u.cnt 8=s.cnt 3 + 1∧∀ k,k≠3→k≠8→u.cnt k=s.cnt k:=by
  generalize s.new 3 (.inst 2 [])=t at q0 f0 c3 ck c8
  have q1:(t.put (3,s.cnt 3) (.inst 2 [(0,.int (s.cnt 3))])).heap (3,s.cnt 3)=some (.inst 2 [(0,.int (s.cnt 3))]):=zm _ _ _
  have f1:=wz (l:=(3,s.cnt 3)) f0 ge (.inst 2 [(0,.int (s.cnt 3))])
  have q2:((t.put (3,s.cnt 3) (.inst 2 [(0,.int (s.cnt 3))])).put (3,s.cnt 3) (.inst 2 [(0,.int (s.cnt 3)),(1,.int 0)])).heap (3,s.cnt 3)=some (.inst 2 [(0,.int (s.cnt 3)),(1,.int 0)]):=zm _ _ _
  have f2:=wz (l:=(3,s.cnt 3)) f1 ge (.inst 2 [(0,.int (s.cnt 3)),(1,.int 0)])
  have q3:(((t.put (3,s.cnt 3) (.inst 2 [(0,.int (s.cnt 3))])).put (3,s.cnt 3) (.inst 2 [(0,.int (s.cnt 3)),(1,.int 0)])).put (3,s.cnt 3) (.inst 2 [(0,.int (s.cnt 3)),(1,.int 0),(2,.none)])).heap (3,s.cnt 3)=some (.inst 2 [(0,.int (s.cnt 3)),(1,.int 0),(2,.none)]):=zm _ _ _
  have f3:=wz (l:=(3,s.cnt 3)) f2 ge (.inst 2 [(0,.int (s.cnt 3)),(1,.int 0),(2,.none)])
  have k3:(((t.put (3,s.cnt 3) (.inst 2 [(0,.int (s.cnt 3))])).put (3,s.cnt 3) (.inst 2 [(0,.int (s.cnt 3)),(1,.int 0)])).put (3,s.cnt 3) (.inst 2 [(0,.int (s.cnt 3)),(1,.int 0),(2,.none)])).cnt=t.cnt:=rfl
  refine ⟨((((t.put (3,s.cnt 3) (.inst 2 [(0,.int (s.cnt 3))])).put (3,s.cnt 3) (.inst 2 [(0,.int (s.cnt 3)),(1,.int 0)])).put (3,s.cnt 3) (.inst 2 [(0,.int (s.cnt 3)),(1,.int 0),(2,.none)])).new 8 (.list [])).put (3,s.cnt 3) (k5 (s.cnt 3) c0),qm (zl hf rfl ?_),zm _ _ _,?_,wz (f3.new 8 _) ge _,c3,congrArg (· + 1) c8,fun k h1 h2=>(if_neg h2).trans (ck k h1)⟩
  ·refine z8 (v:=.int (s.cnt 3)) rfl rfl (xj 0 _ q0 rfl) (z8 (v:=.int 0) rfl rfl (xj 1 _ q1 rfl) (z8 (v:=.none) rfl rfl (xj 2 _ q2 rfl) ?_))
   refine z8 (v:=.ref (8,t.cnt 8)) (s':=((((t.put (3,s.cnt 3) (.inst 2 [(0,.int (s.cnt 3))])).put (3,s.cnt 3) (.inst 2 [(0,.int (s.cnt 3)),(1,.int 0)])).put (3,s.cnt 3) (.inst 2 [(0,.int (s.cnt 3)),(1,.int 0),(2,.none)])).new 8 (.list [])).put (3,s.cnt 3) (k5 (s.cnt 3) c0)) rfl rfl ?_ (zz ⟨rfl,rfl⟩)
   refine (xj 3 _ ((q9 (ze (by decide))).trans q3) rfl).trans ?_
   rw [c8]; rfl
  ·refine (zo (ze (by decide))).trans ?_
   rw [← c8]; exact zy _ 8 _
 obtain ⟨u,e1,e2⟩:=e
 refine ⟨u,?_,e2⟩
 rw [xx,hin]
 show Res.bind (run P (n + 1) 10 [.ref (3,s.cnt 3),.int (s.cnt 3)] (s.new 3 (.inst 2 []))) _=_
 rw [e1]; rfl
noncomputable def W0 (ks:List Key) (nc:Nat):WS:=⟨nc,fun b=>HS.new (hn b) ks,fun _=>c0,[],[]⟩
set_option genCtorIdx false in
structure CI (s:MS) (j:Nat) (u:MS):Prop where
 c3:u.cnt 3=j
 c8:u.cnt 8=j
 co:∀ i,i < j→u.heap (3,i)=some (k5 i c0)
 cl:∀ i,i < j→u.heap (8,i)=some (.list [])
 fr:Fr (fun _=>False) s u
 ck:∀ k,k≠3→k≠8→u.cnt k=s.cnt k
theorem CI.next {u v:MS}{j:Nat} (a:CI s j u) (h1:v.heap (3,j)=some (k5 j c0)) (h2:v.heap (8,j)=some (.list [])) (f:Fr (fun _=>False) u v) (h3:v.cnt 3=j + 1) (h8:v.cnt 8=j + 1) (hk:∀ k,k≠3→k≠8→v.cnt k=u.cnt k):CI s (j + 1) v:=by
 refine ⟨h3,h8,fun i hi=>?_,fun i hi=>?_,a.fr.trans f,fun k q1 q2=>(hk k q1 q2).trans (a.ck k q1 q2)⟩
 ·by_cases e:i=j
  ·rw [e]; exact h1
  ·exact (f.1 (3,i) (by show i < u.cnt 3; rw [a.c3]; lia) fun q=>q).trans (a.co i (by lia))
 ·by_cases e:i=j
  ·rw [e]; exact h2
  ·exact (f.1 (8,i) (by show i < u.cnt 8; rw [a.c8]; lia) fun q=>q).trans (a.cl i (by lia))
theorem rs (n:Nat):List.range n=List.range' 0 n:=List.range_eq_range'
include H
theorem zc5 {xc:Nat} (HP:HouseP P) (i0:P.inits 0=some (1,40)) (i1:P.inits 1=some (2,20)) (i2:P.inits 2=some (3,10)) (hci:P.fns 10=some f_Caller_init) (hk:P.fns 4=some f_is_key) (hnw:P.fns 5=some (f_need_world xc)) (hf:P.fns 40=some f_World_init)
  (n:Nat) (K:KeysFine ks) {nc:Nat} (h1:1≤nc) (h6:nc≤6) (hc:∀ k,k < 11→s.cnt k=0) :
  OkR (xx P (run P (n + 3)) 0 [.lst (ks.map .str),.int nc] s) fun v u=>v=.ref (1,0)∧(∃ x,WAt u ks (W0 ks nc) x)∧Fr (fun _=>False) s u∧∀ k,10 < k→u.cnt k=s.cnt k:=by
 have g1:=hc 1 (by decide)
 have q0:(s.new 1 (.inst 0 [])).heap (1,0)=some (.inst 0 []):=by rw [← g1]; exact zy _ 1 _
 have f0:Fr (fun _=>False) s (s.new 1 (.inst 0 [])):=(Fr.refl _ _).new _ _
 have b1:(s.new 1 (.inst 0 [])).cnt 1=1:=by rw [uk,g1]
 have bk:∀ k,k≠1→(s.new 1 (.inst 0 [])).cnt k=s.cnt k:=fun k hk=>if_neg hk
 rw [xx,i0]
 show OkR (Res.bind (run P (n + 3) 40 [.ref (1,s.cnt 1),.lst (ks.map .str),.int nc] (s.new 1 (.inst 0 []))) _) _
 rw [g1,j5]
 have ge:s.cnt 1≤0:=Nat.le_of_eq g1
 generalize s.new 1 (.inst 0 [])=t at q0 f0 b1 bk
 suffices h:OkR (run P (n + 3) 40 [.ref (1,0),.lst (ks.map .str),.int nc] t) fun v u=>v=.none∧(∃ x,WAt u ks (W0 ks nc) x)∧Fr (fun _=>False) s u∧∀ k,10 < k→u.cnt k=s.cnt k from
  qr h fun v u q=>by obtain ⟨rfl,q⟩:=q; exact ⟨rfl,q⟩
 have hn6:ks.length < 1000:=by have:=K.six; lia
 refine zl hf rfl ?_
 refine qc (jt (vs:=[.lst (ks.map .str),.int nc]) rfl (fv H hk hnw n K h1 h6 t)) ?_
 refine z8 (v:=.lst (ks.map .str)) (s':=t.put (1,0) (.inst 0 [(8,.lst (ks.map .str))])) rfl rfl (xj 8 _ q0 rfl) ?_
 have q1:(t.put (1,0) (.inst 0 [(8,.lst (ks.map .str))])).heap (1,0)=some (.inst 0 [(8,.lst (ks.map .str))]):=zm _ _ _
 have f1:=wz (l:=(1,0)) f0 ge (.inst 0 [(8,.lst (ks.map .str))])
 have d1:(t.put (1,0) (.inst 0 [(8,.lst (ks.map .str))])).cnt=t.cnt:=rfl
 generalize t.put (1,0) (.inst 0 [(8,.lst (ks.map .str))])=t1 at q1 f1 d1
 have k1:∀ k,k≠1→k < 11→t1.cnt k=0:=fun k hk h=>(congrFun d1 k).trans ((bk k hk).trans (hc k h))
 obtain ⟨v,s1,e1,rfl,x1,-,hH1,u1,c1,m1⟩:=qz (cj HP i1 (n + 1) (s:=t1) 0 (.lst (ks.map .str)) ks (.inl rfl) hn6)
 obtain ⟨v,s2,e2,rfl,x2,hx2,hH2,u2,c2,m2⟩:=qz (cj HP i1 (n + 1) (s:=s1) 1 (.lst (ks.map .str)) ks (.inl rfl) hn6)
 have z2:=k1 2 (by decide) (by decide)
 rw [c1] at e2 hH2 c2
 rw [z2] at e1 e2 hH1 hH2 c2
 have f12:=u1.trans u2
 have l1:0 < t1.cnt 1:=by rw [congrFun d1 1,b1]; exact Nat.one_pos
 have q2:s2.heap (1,0)=some (.inst 0 [(8,.lst (ks.map .str))]):=(f12.1 (1,0) l1 fun q=>q).trans q1
 have m3:s2.cnt 3=0:=(m2 3 (.inr rfl)).trans ((m1 3 (.inr rfl)).trans (k1 3 (by decide) (by decide)))
 have m8:∀ k,7 < k→k < 11→s2.cnt k=0:=fun k h h'=>(m2 k (.inl h)).trans ((m1 k (.inl h)).trans (k1 k (by lia) h'))
 have l12:0 < s2.cnt 1:=Nat.lt_of_lt_of_le l1 (f12.2 1)
 have hh2:HH s2 (fun b=>cond b x2 x1) (fun b=>HS.new (hn b) ks):=by
  refine ⟨fun b=>?_,?_,?_,?_,?_⟩
  ·cases b
   ·exact hH1.step u2 fun _ _ q=>q
   ·exact hH2
  ·exact Nat.ne_of_lt (Nat.lt_of_lt_of_le hH1.ik hx2.1)
  ·exact Nat.ne_of_lt (Nat.lt_of_lt_of_le hH1.iw hx2.2.1)
  ·exact Nat.ne_of_lt (Nat.lt_of_lt_of_le hH1.il hx2.2.2.1)
  ·exact Nat.ne_of_lt (Nat.lt_of_lt_of_le hH1.ir hx2.2.2.2)
 refine z8 (v:=.lst [.ref (2,0),.ref (2,1)]) (s':=s2.put (1,0) (.inst 0 [(8,.lst (ks.map .str)),(9,.lst [.ref (2,0),.ref (2,1)])])) (zpa (vs:=[.ref (2,0),.ref (2,1)]) (z5 (v:=.ref (2,0)) (s1:=s1) (ag (a:=[.int 0,.lst (ks.map .str)]) (s:=t1) rfl e1) (z5 (v:=.ref (2,1)) (s1:=s2) (ag (a:=[.int 1,.lst (ks.map .str)]) (s:=s1) rfl e2) rfl)) rfl) rfl (xj 9 _ q2 rfl) ?_
 have q3:(s2.put (1,0) (.inst 0 [(8,.lst (ks.map .str)),(9,.lst [.ref (2,0),.ref (2,1)])])).heap (1,0)=some (.inst 0 [(8,.lst (ks.map .str)),(9,.lst [.ref (2,0),.ref (2,1)])]):=zm _ _ _
 have f3:=wz (l:=(1,0)) (f1.trans f12) ge (.inst 0 [(8,.lst (ks.map .str)),(9,.lst [.ref (2,0),.ref (2,1)])])
 have hh3:=hh2.step (cf (l:=(1,0)) (of_decide_eq_true (p:=1≠2∧1≠4∧1≠5∧1≠6∧1≠7) rfl) (.inst 0 [(8,.lst (ks.map .str)),(9,.lst [.ref (2,0),.ref (2,1)])]))
 have d3:(s2.put (1,0) (.inst 0 [(8,.lst (ks.map .str)),(9,.lst [.ref (2,0),.ref (2,1)])])).cnt=s2.cnt:=rfl
 generalize s2.put (1,0) (.inst 0 [(8,.lst (ks.map .str)),(9,.lst [.ref (2,0),.ref (2,1)])])=t3 at q3 f3 hh3 d3
 have ci0:CI t3 0 t3:=⟨(congrFun d3 3).trans m3,(congrFun d3 8).trans (m8 8 (by decide) (by decide)),fun i hi=>absurd hi (Nat.not_lt_zero i),fun i hi=>absurd hi (Nat.not_lt_zero i),.refl _ _,fun _ _ _=>rfl⟩
 have hcomp:=oe (P:=P) (C:=run P (n + 2)) (s₀:=t3) (slot:=3) (e:=.new 2 [.loc 3]) (l:=[some (.ref (1,0)),some (.lst (ks.map .str)),some (.int nc),none]) (nc:=nc) (fun i=>.ref (3,i)) (CI t3) (by lia) (fun j u hj a=>by
  obtain ⟨v,r1,r2,r3,r4,r5,r6,r7⟩:=zbr i2 hci (n + 1) a.c3 a.c8
  exact cz (ag (a:=[.int j]) (s:=u) rfl r1) ⟨rfl,a.next r2 r3 r4 r5 r6 r7⟩) nc 0 t3 (Nat.zero_add nc) ci0
 obtain ⟨vs,t4,e4,rfl,ci⟩:=qz hcomp
 have l13:0 < t3.cnt 1:=by rw [congrFun d3 1]; exact l12
 have q4:t4.heap (1,0)=some (.inst 0 [(8,.lst (ks.map .str)),(9,.lst [.ref (2,0),.ref (2,1)])]):=(ci.fr.1 (1,0) l13 fun q=>q).trans q3
 have f4:=f3.trans ci.fr
 have hh4:=hh3.step (ci.fr.mono fun _ q=>q.elim)
 have hit:z6 t3 true (.int nc)=some ((List.range' 0 nc).map fun (i:Nat)=>V.int i):=(j8 t3 nc (by lia) (by lia)).trans (by rw [Int.toNat_natCast,rs])
 refine z8 (v:=.lst (zk nc)) (s':=t4.put (1,0) (.inst 0 [(8,.lst (ks.map .str)),(9,.lst [.ref (2,0),.ref (2,1)]),(10,.lst (zk nc))])) (wl (src:=.int nc) rfl hit e4) rfl (xj 10 _ q4 rfl) ?_
 have d9:t4.cnt 9=0:=(ci.ck 9 (by decide) (by decide)).trans ((congrFun d3 9).trans (m8 9 (by decide) (by decide)))
 have d10:t4.cnt 10=0:=(ci.ck 10 (by decide) (by decide)).trans ((congrFun d3 10).trans (m8 10 (by decide) (by decide)))
 have l14:0 < t4.cnt 1:=Nat.lt_of_lt_of_le l13 (ci.fr.2 1)
 have q5:((t4.put (1,0) (.inst 0 [(8,.lst (ks.map .str)),(9,.lst [.ref (2,0),.ref (2,1)]),(10,.lst (zk nc))])).new 9 (.list [])).heap (1,0)=some (.inst 0 [(8,.lst (ks.map .str)),(9,.lst [.ref (2,0),.ref (2,1)]),(10,.lst (zk nc))]):=(q9 (ze (by decide))).trans (zm _ _ _)
 refine z8 (v:=.ref (9,t4.cnt 9)) (s':=((t4.put (1,0) (.inst 0 [(8,.lst (ks.map .str)),(9,.lst [.ref (2,0),.ref (2,1)]),(10,.lst (zk nc))])).new 9 (.list [])).put (1,0) (.inst 0 [(8,.lst (ks.map .str)),(9,.lst [.ref (2,0),.ref (2,1)]),(10,.lst (zk nc)),(11,.ref (9,t4.cnt 9))])) rfl rfl (xj 11 _ q5 rfl) ?_
 have q6:((((t4.put (1,0) (.inst 0 [(8,.lst (ks.map .str)),(9,.lst [.ref (2,0),.ref (2,1)]),(10,.lst (zk nc))])).new 9 (.list [])).put (1,0) (.inst 0 [(8,.lst (ks.map .str)),(9,.lst [.ref (2,0),.ref (2,1)]),(10,.lst (zk nc)),(11,.ref (9,t4.cnt 9))])).new 10 (.list [])).heap (1,0)=some (.inst 0 [(8,.lst (ks.map .str)),(9,.lst [.ref (2,0),.ref (2,1)]),(10,.lst (zk nc)),(11,.ref (9,t4.cnt 9))]):=(q9 (ze (by decide))).trans (zm _ _ _)
 refine z8 (v:=.ref (10,t4.cnt 10)) (s':=((((t4.put (1,0) (.inst 0 [(8,.lst (ks.map .str)),(9,.lst [.ref (2,0),.ref (2,1)]),(10,.lst (zk nc))])).new 9 (.list [])).put (1,0) (.inst 0 [(8,.lst (ks.map .str)),(9,.lst [.ref (2,0),.ref (2,1)]),(10,.lst (zk nc)),(11,.ref (9,t4.cnt 9))])).new 10 (.list [])).put (1,0) (.inst 0 [(8,.lst (ks.map .str)),(9,.lst [.ref (2,0),.ref (2,1)]),(10,.lst (zk nc)),(11,.ref (9,t4.cnt 9)),(12,.ref (10,t4.cnt 10))])) rfl rfl (xj 12 _ q6 rfl) (zz ⟨rfl,⟨fun b=>cond b x2 x1,?_⟩,?_,fun k hk=>?_⟩)
 ·have g:∀ {l:Lbl}{o:MObj},t4.heap l=some o→l.1≠1→l.1≠9→l.1≠10→(((((t4.put (1,0) (.inst 0 [(8,.lst (ks.map .str)),(9,.lst [.ref (2,0),.ref (2,1)]),(10,.lst (zk nc))])).new 9 (.list [])).put (1,0) (.inst 0 [(8,.lst (ks.map .str)),(9,.lst [.ref (2,0),.ref (2,1)]),(10,.lst (zk nc)),(11,.ref (9,t4.cnt 9))])).new 10 (.list [])).put (1,0) (.inst 0 [(8,.lst (ks.map .str)),(9,.lst [.ref (2,0),.ref (2,1)]),(10,.lst (zk nc)),(11,.ref (9,t4.cnt 9)),(12,.ref (10,t4.cnt 10))])).heap l=some o :=
   fun e h1 h9 h10=>(zo fun q=>h1 (congrArg Prod.fst q)).trans ((q9 fun q=>h10 (congrArg Prod.fst q)).trans ((zo fun q=>h1 (congrArg Prod.fst q)).trans ((q9 fun q=>h9 (congrArg Prod.fst q)).trans ((zo fun q=>h1 (congrArg Prod.fst q)).trans e))))
  have fN:Fr NH t4 (((((t4.put (1,0) (.inst 0 [(8,.lst (ks.map .str)),(9,.lst [.ref (2,0),.ref (2,1)]),(10,.lst (zk nc))])).new 9 (.list [])).put (1,0) (.inst 0 [(8,.lst (ks.map .str)),(9,.lst [.ref (2,0),.ref (2,1)]),(10,.lst (zk nc)),(11,.ref (9,t4.cnt 9))])).new 10 (.list [])).put (1,0) (.inst 0 [(8,.lst (ks.map .str)),(9,.lst [.ref (2,0),.ref (2,1)]),(10,.lst (zk nc)),(11,.ref (9,t4.cnt 9)),(12,.ref (10,t4.cnt 10))])) :=
   have nh:NH (1,0):=of_decide_eq_true (p:=1≠2∧1≠4∧1≠5∧1≠6∧1≠7) rfl
   (((((Fr.refl NH t4).put nh _).new 9 _).put nh _).new 10 _).put nh _
  have p9:(((((t4.put (1,0) (.inst 0 [(8,.lst (ks.map .str)),(9,.lst [.ref (2,0),.ref (2,1)]),(10,.lst (zk nc))])).new 9 (.list [])).put (1,0) (.inst 0 [(8,.lst (ks.map .str)),(9,.lst [.ref (2,0),.ref (2,1)]),(10,.lst (zk nc)),(11,.ref (9,t4.cnt 9))])).new 10 (.list [])).put (1,0) (.inst 0 [(8,.lst (ks.map .str)),(9,.lst [.ref (2,0),.ref (2,1)]),(10,.lst (zk nc)),(11,.ref (9,t4.cnt 9)),(12,.ref (10,t4.cnt 10))])).heap (9,t4.cnt 9)=some (.list []):=(zo (ze (by decide))).trans ((q9 (ze (by decide))).trans ((zo (ze (by decide))).trans (zy _ 9 _)))
  have p10:(((((t4.put (1,0) (.inst 0 [(8,.lst (ks.map .str)),(9,.lst [.ref (2,0),.ref (2,1)]),(10,.lst (zk nc))])).new 9 (.list [])).put (1,0) (.inst 0 [(8,.lst (ks.map .str)),(9,.lst [.ref (2,0),.ref (2,1)]),(10,.lst (zk nc)),(11,.ref (9,t4.cnt 9))])).new 10 (.list [])).put (1,0) (.inst 0 [(8,.lst (ks.map .str)),(9,.lst [.ref (2,0),.ref (2,1)]),(10,.lst (zk nc)),(11,.ref (9,t4.cnt 9)),(12,.ref (10,t4.cnt 10))])).heap (10,t4.cnt 10)=some (.list []):=(zo (ze (by decide))).trans (zy _ 10 _)
  have o0:(((((t4.put (1,0) (.inst 0 [(8,.lst (ks.map .str)),(9,.lst [.ref (2,0),.ref (2,1)]),(10,.lst (zk nc))])).new 9 (.list [])).put (1,0) (.inst 0 [(8,.lst (ks.map .str)),(9,.lst [.ref (2,0),.ref (2,1)]),(10,.lst (zk nc)),(11,.ref (9,t4.cnt 9))])).new 10 (.list [])).put (1,0) (.inst 0 [(8,.lst (ks.map .str)),(9,.lst [.ref (2,0),.ref (2,1)]),(10,.lst (zk nc)),(11,.ref (9,t4.cnt 9)),(12,.ref (10,t4.cnt 10))])).heap (1,0)=some (.inst 0 [(8,.lst (ks.map .str)),(9,.lst [.ref (2,0),.ref (2,1)]),(10,.lst (zk nc)),(11,.ref (9,t4.cnt 9)),(12,.ref (10,t4.cnt 10))]):=zm _ _ _
  have n9:(((((t4.put (1,0) (.inst 0 [(8,.lst (ks.map .str)),(9,.lst [.ref (2,0),.ref (2,1)]),(10,.lst (zk nc))])).new 9 (.list [])).put (1,0) (.inst 0 [(8,.lst (ks.map .str)),(9,.lst [.ref (2,0),.ref (2,1)]),(10,.lst (zk nc)),(11,.ref (9,t4.cnt 9))])).new 10 (.list [])).put (1,0) (.inst 0 [(8,.lst (ks.map .str)),(9,.lst [.ref (2,0),.ref (2,1)]),(10,.lst (zk nc)),(11,.ref (9,t4.cnt 9)),(12,.ref (10,t4.cnt 10))])).cnt 9=t4.cnt 9 + 1:=rfl
  have n10:(((((t4.put (1,0) (.inst 0 [(8,.lst (ks.map .str)),(9,.lst [.ref (2,0),.ref (2,1)]),(10,.lst (zk nc))])).new 9 (.list [])).put (1,0) (.inst 0 [(8,.lst (ks.map .str)),(9,.lst [.ref (2,0),.ref (2,1)]),(10,.lst (zk nc)),(11,.ref (9,t4.cnt 9))])).new 10 (.list [])).put (1,0) (.inst 0 [(8,.lst (ks.map .str)),(9,.lst [.ref (2,0),.ref (2,1)]),(10,.lst (zk nc)),(11,.ref (9,t4.cnt 9)),(12,.ref (10,t4.cnt 10))])).cnt 10=t4.cnt 10 + 1:=rfl
  generalize ((((t4.put (1,0) (.inst 0 [(8,.lst (ks.map .str)),(9,.lst [.ref (2,0),.ref (2,1)]),(10,.lst (zk nc))])).new 9 (.list [])).put (1,0) (.inst 0 [(8,.lst (ks.map .str)),(9,.lst [.ref (2,0),.ref (2,1)]),(10,.lst (zk nc)),(11,.ref (9,t4.cnt 9))])).new 10 (.list [])).put (1,0) (.inst 0 [(8,.lst (ks.map .str)),(9,.lst [.ref (2,0),.ref (2,1)]),(10,.lst (zk nc)),(11,.ref (9,t4.cnt 9)),(12,.ref (10,t4.cnt 10))])=t5 at g fN p9 p10 o0 n9 n10
  rw [d9] at p9 o0 n9
  rw [d10] at p10 o0 n10
  exact ⟨o0,hh4.step fN,fun i hi=>g (l:=(3,i)) (ci.co i hi) (of_decide_eq_true (p:=3≠1) rfl) (of_decide_eq_true (p:=3≠9) rfl) (of_decide_eq_true (p:=3≠10) rfl),fun i hi=>g (l:=(8,i)) (ci.cl i hi) (of_decide_eq_true (p:=8≠1) rfl) (of_decide_eq_true (p:=8≠9) rfl) (of_decide_eq_true (p:=8≠10) rfl),p9,p10,
   Nat.lt_of_lt_of_le l14 (fN.2 1),Nat.le_trans (Nat.le_of_eq ci.c3.symm) (fN.2 3),Nat.le_trans (Nat.le_of_eq ci.c8.symm) (fN.2 8),by rw [n9]; exact Nat.one_pos,by rw [n10]; exact Nat.one_pos⟩
 ·exact wz (l:=(1,0)) ((wz (l:=(1,0)) ((wz (l:=(1,0)) f4 ge _).new 9 _) ge _).new 10 _) ge _
 ·exact (if_neg (Nat.ne_of_gt hk)).trans ((if_neg (by lia:¬ k=9)).trans ((ci.ck k (by lia) (by lia)).trans ((congrFun d3 k).trans ((m2 k (.inl (by lia))).trans ((m1 k (.inl (by lia))).trans ((congrFun d1 k).trans (bk k (by lia))))))))
omit H
noncomputable abbrev big:Int:=1000000000000000000000000000000
theorem zoq {C:Calls}{l:Loc}{a:E}{i:Int} (ha:ev P C a l s=.ok (.int i) s) (h1:-big≤i) (h2:i≤big) :
  ev P C (.not (.cmp2 (.neg (.gint "GREATEST" 1000000000000000000000000000000)) .le a .le (.gint "GREATEST" 1000000000000000000000000000000))) l s=.ok (.bool false) s :=
 kq (t:=true) (fg (x:=-big) (y:=i) (z:=big) rfl ha rfl h1 h2)
noncomputable def WOk:W→Prop
 | .get=>True
 | .set i=>-big≤i∧i≤big
 | .add i=>-big≤i∧i≤big
include H
theorem zlx {xc:Nat} (hf:P.fns 1=some (f_need_wish xc)) (n:Nat) (w:W) (h:WOk w) (s:MS):run P (n + 2) 1 [wv w] s=.ok .none s:=by
 refine qm (zl hf rfl ?_)
 cases w with
 | get=>exact zt (t:=false) (s':=s) rfl (zi (zt (t:=true) (s':=s) rfl (rj ⟨rfl,rfl⟩)))
 | set i =>
  have hw:=yd H n i s
  exact zt (t:=false) (s':=s) rfl (zi (zt (t:=false) (s':=s) rfl (zi (zt (t:=false) (s':=s) (kg rfl (kg rfl (v6 (kq (t:=true) (jt (vs:=[.int i]) rfl hw))))) (zi (zt (t:=false) (zoq rfl h.1 h.2) (zi (zz ⟨rfl,rfl⟩))))))))
 | add i =>
  have hw:=yd H n i s
  exact zt (t:=false) (s':=s) rfl (zi (zt (t:=false) (s':=s) rfl (zi (zt (t:=false) (s':=s) (kg rfl (kg rfl (v6 (kq (t:=true) (jt (vs:=[.int i]) rfl hw))))) (zi (zt (t:=false) (zoq rfl h.1 h.2) (zi (zz ⟨rfl,rfl⟩))))))))
omit H
theorem zp5:big=1000000000000000000000000000000:=rfl
theorem zex (c:Int) (b:Bool):-big≤d6 c b∧d6 c b≤big:=by
 rw [zp5]
 cases b with
 | true =>
  obtain ⟨h1,h2⟩:=q8 (c.fdiv 6) 2000000000000000000000000000001 (by decide)
  show _≤_ - _∧_ - _≤_
  constructor <;> omega
 | false =>
  obtain ⟨h1,h2⟩:=q8 (c.fdiv 6) 7 (by decide)
  show _≤_ - _∧_ - _≤_
  constructor <;> omega
theorem znk (c:Int):WOk (zcs c):=by
 unfold zcs dx
 split
 ·trivial
 ·split
  ·exact zex c _
  ·exact zex c _
theorem zmm:∀ c∈qwe,97≤c∧c≤122:=by decide
theorem zaa {m z:Nat} (h6:m≤6) (hz:z < 8) (a:Nat) (t:Int) (b:Bool):∀ k∈ur m z a t b,KeyFine k:=by
 have hl:(ve z t).length=z:=zaw z t
 have ha:=zkr z t
 cases b with
 | true =>
  intro k hk
  obtain ⟨i,hi,rfl⟩:=List.mem_map.1 hk
  have hi:=List.mem_range.1 hi
  have e:((ve z t ++ qwe).take (i + 1)).length=i + 1:=by rw [List.length_take,List.length_append,hl]; show min (i + 1) (z + 8)=i + 1; lia
  exact ⟨by lia,by lia,fun c hc=>(List.mem_append.1 (List.mem_of_mem_take hc)).elim (ha c) (zmm c)⟩
 | false =>
  intro k hk
  obtain ⟨i,hi,rfl⟩:=List.mem_map.1 hk
  have e:((ve z t).take a ++ [ka (t + i)] ++ (ve z t).drop a).length=z + 1:=by rw [List.length_append,List.length_append,List.length_take,List.length_drop,hl]; show min a z + 1 + (z - a)=z + 1; lia
  refine ⟨by lia,by lia,fun c hc=>?_⟩
  rcases List.mem_append.1 hc with hc | hc
  ·rcases List.mem_append.1 hc with hc | hc
   ·exact ha c (List.mem_of_mem_take hc)
   ·rw [List.mem_singleton.1 hc]; exact fx _
  ·exact ha c (List.mem_of_mem_drop hc)
theorem ze2 (c:Int):KeysFine (di c):=by
 obtain ⟨h0,h1⟩:=q8 c 6 (by decide)
 obtain ⟨h2,h3⟩:=q8 (c.fdiv 6) 8 (by decide)
 have K:=zoc c
 exact ⟨K.pos,K.six,K.nd,zaa (by omega) (by omega) _ _ _⟩
theorem gw (k:Int) {N:Nat} (h:0 < N):∃ p:Nat,p < N∧k.fmod (N:Int)=p:=by
 obtain ⟨h1,h2⟩:=q8 k (N:Int) (by omega)
 exact ⟨(k.fmod (N:Int)).toNat,by omega,by omega⟩
end
end Mine
end
section
namespace Mine
noncomputable def f_Caller_came:Fn:=⟨3,["self","number","told"],[.ite (.and [.isC true (.attr (.loc 0) 2) .none,.cmp (.sub (.attr (.loc 0) 2) (.int 0)) .eq (.loc 1)]) [.expr (.bm .append (.attr (.loc 0) 3) [.tup [.loc 1,.loc 2]]),.setattr (.loc 0) 2 .none] []]⟩
noncomputable def f_World_home:Fn:=⟨2,["self","key","house"],[.expr (.meth (.loc 0) 15 [.loc 1]),.for_ (.inl (.loc 2)) false (.attr (.loc 0) 9) [.ite (.meth (.loc 2) 0 [.loc 1]) [.ret (some (.attr (.loc 2) 0))] []],.ret (some .none)]⟩
noncomputable def f_World_move (xc:Nat):Fn:=⟨2,["self","key","home"],[.assign 2 (.meth (.loc 0) 24 [.loc 1]),.ite (.isC false (.loc 2) .none) [.raise xc] [],.expr (.meth (.sub (.attr (.loc 0) 9) (.loc 2)) 5 [.loc 1])]⟩
noncomputable def f_World_has:Fn:=⟨3,["self","house","key"],[.expr (.meth (.loc 0) 14 [.loc 1]),.expr (.meth (.loc 0) 15 [.loc 2]),.ret (some (.meth (.sub (.attr (.loc 0) 9) (.loc 1)) 0 [.loc 2]))]⟩
noncomputable def f_World_write:Fn:=⟨2,["self","house","found"],[.expr (.meth (.loc 0) 14 [.loc 1]),.assign 2 (.meth (.sub (.attr (.loc 0) 9) (.loc 1)) 6 []),.expr (.bm .extend (.attr (.loc 0) 11) [.sub (.loc 2) (.int 0)]),.expr (.bm .extend (.attr (.loc 0) 12) [.sub (.loc 2) (.int 1)])]⟩
noncomputable def f_World_nudge:Fn:=⟨2,["self","house"],[.expr (.meth (.loc 0) 14 [.loc 1]),.expr (.bm .extend (.attr (.loc 0) 11) [.meth (.sub (.attr (.loc 0) 9) (.loc 1)) 8 []])]⟩
noncomputable def f_World_owes:Fn:=⟨2,["self","house"],[.expr (.meth (.loc 0) 14 [.loc 1]),.ret (some (.meth (.sub (.attr (.loc 0) 9) (.loc 1)) 1 []))]⟩
noncomputable def CS.came (c:CS) (n told:Int):CS:=match c.op with
 | some p=>if p.1=n then ⟨c.begun,none,c.closed ++ [(n,told)]⟩ else c
 | none=>c
noncomputable def v4 (W:WS) (key:Key):V:=if (W.h false).has key then .int (W.h false).num else if (W.h true).has key then .int (W.h true).num else .none
section
variable {P:Prog} (H:WorldP P) {n:Nat}{s:MS}{ks:List Key}{W:WS}{x:Bool→HIx}{i:Nat}
theorem zch (s:MS) (r:Lbl) (l:List V) {v:V}{k:Bool}{l2:List V} (h:s.heap r=some (.list l)) (h2:zv s v=some (k,l2)) (hz:l.length + l2.length≤16777216):bq .extend (.ref r) [v] s=.ok .none (s.put r (.list (l ++ l2))):=by
 show (match kt (.ref r) s with | some p=>(match zv s v with | some q=>if p.2.length + q.2.length≤zf then Res.ok V.none (s.put p.1 (.list (p.2 ++ q.2))) else .stuck | none=>.stuck) | none=>.stuck)=_
 rw [tz h]
 show (match zv s v with | some q=>if l.length + q.2.length≤zf then Res.ok V.none (s.put r (.list (l ++ q.2))) else .stuck | none=>.stuck)=_
 rw [h2]
 exact if_pos hz
theorem WAt.setRows (a:WAt s ks W x) (l:List LRow):WAt (s.put (10,0) (.list (l.map xt))) ks { W with rows:=l } x :=
 ⟨(zo (ze (by decide))).trans a.o,a.hh.step (cf (l:=(10,0)) (of_decide_eq_true (p:=10≠2∧10≠4∧10≠5∧10≠6∧10≠7) rfl) _),fun i hi=>(zo (ze (by decide))).trans (a.co i hi),fun i hi=>(zo (ze (by decide))).trans (a.cl i hi),(zo (ze (by decide))).trans a.po,zm _ _ _,a.i1,a.i3,a.i8,a.i9,a.i10⟩
theorem WAt.setClosed (a:WAt s ks W x) (i:Nat) (c:CS) (h1:c.begun=(W.c i).begun) (h2:c.op=(W.c i).op):WAt (s.put (8,i) (.list (c.closed.map bj))) ks { W with c:=vw W.c i c } x:=by
 refine ⟨(zo (ze (by decide))).trans a.o,a.hh.step (cf (l:=(8,i)) (of_decide_eq_true (p:=8≠2∧8≠4∧8≠5∧8≠6∧8≠7) rfl) _),fun k hk=>?_,fun k hk=>?_,(zo (ze (by decide))).trans a.po,(zo (ze (by decide))).trans a.ro,a.i1,a.i3,a.i8,a.i9,a.i10⟩
 ·refine ((zo (ze (by decide))).trans (a.co k hk)).trans ?_
  show some (k5 k (W.c k))=some (k5 k (if k=i then c else W.c k))
  by_cases e:k=i
  ·rw [if_pos e,k5,k5,h1,h2,e]
  ·rw [if_neg e]
 ·show (s.put (8,i) (.list (c.closed.map bj))).heap (8,k)=some (.list (List.map bj (if k=i then c else W.c k).closed))
  by_cases e:k=i
  ·subst e; rw [if_pos rfl]; exact zm _ _ _
  ·rw [if_neg e]; exact (zo fun q=>e (congrArg Prod.snd q)).trans (a.cl k hk)
theorem zfe (f:Nat→CS) (i:Nat) (a b:CS):vw (vw f i a) i b=vw f i b:=by
 funext k
 show (if k=i then _ else if k=i then _ else f k)=if k=i then _ else f k
 split <;> rfl
theorem o8 (f:Nat→CS) (i:Nat):vw f i (f i)=f:=by
 funext k
 show (if k=i then f i else f k)=f k
 split
 ·rename_i e; rw [e]
 ·rfl
include H
theorem zgo (hf:P.fns 13=some f_Caller_came) (n:Nat) (a:WAt s ks W x) (hi:i < W.nc) (num told:Int) (hz:(W.c i).closed.length < 16777000) :
  OkR (run P (n + 1) 13 [.ref (3,i),.int num,.int told] s) fun v u=>v=.none∧WAt u ks { W with c:=vw W.c i ((W.c i).came num told) } x∧Fr NWp s u:=by
 have ho:=a.co i hi
 have hcl:=a.cl i hi
 refine zl hf rfl ?_
 have eo:ev P (run P n) (.attr (.loc 0) 2) [some (.ref (3,i)),some (.int num),some (.int told)] s=.ok (opV (W.c i).op) s:=zu rfl (qd ho rfl)
 cases hop:(W.c i).op with
 | none =>
  have e:(W.c i).came num told=W.c i:=by rw [CS.came,hop]
  rw [e,o8]
  rw [hop] at eo
  exact zt (t:=false) (s':=s) (py (yu (g:=true) (t:=true) eo (decide_eq_true rfl))) (zi (zz ⟨rfl,a,.refl _ _⟩))
 | some p =>
  rw [hop] at eo
  have e0:ev P (run P n) (.cmp (.sub (.attr (.loc 0) 2) (.int 0)) .eq (.loc 1)) [some (.ref (3,i)),some (.int num),some (.int told)] s=.ok (.bool (decide (p.1=num))) s:=xg (kh eo rfl rfl) rfl rfl
  have e1:=yu (g:=true) (t:=false) eo (decide_eq_false nofun)
  by_cases hn:p.1=num
  ·have e:(W.c i).came num told=⟨(W.c i).begun,none,(W.c i).closed ++ [(num,told)]⟩:=by rw [CS.came,hop]; exact if_pos hn
   rw [e]
   have hll:((W.c i).closed.map bj).length < 16777216:=by rw [List.length_map]; lia
   refine zt (t:=true) (s':=s) (yy e1 (y0 (e0.trans (congrArg (fun q=>Res.ok (V.bool q) s) (decide_eq_true hn))))) ?_
   have a1:=a.setClosed i ⟨(W.c i).begun,(W.c i).op,(W.c i).closed ++ [(num,told)]⟩ rfl rfl
   have f1:Fr NWp s (s.put (8,i) (.list (((W.c i).closed ++ [(num,told)]).map bj))):=u5 (of_decide_eq_true (p:=8 < 11) rfl) _
   refine qc (v:=.none) (s':=s.put (8,i) (.list (((W.c i).closed ++ [(num,told)]).map bj))) (p3 (x:=.ref (8,i)) (vs:=[bj (num,told)]) (zu rfl (qd ho rfl)) (xr hcl) rfl (by rw [List.map_append]; exact kb _ _ _ _ hcl hll)) ?_
   generalize s.put (8,i) (.list (((W.c i).closed ++ [(num,told)]).map bj))=t at a1 f1
   have hself:vw W.c i ⟨(W.c i).begun,(W.c i).op,(W.c i).closed ++ [(num,told)]⟩ i=⟨(W.c i).begun,(W.c i).op,(W.c i).closed ++ [(num,told)]⟩:=if_pos rfl
   have ho1:t.heap (3,i)=some (k5 i ⟨(W.c i).begun,(W.c i).op,(W.c i).closed ++ [(num,told)]⟩):=(a1.co i hi).trans (congrArg (fun c=>some (k5 i c)) hself)
   have a2:WAt (t.put (3,i) (k5 i ⟨(W.c i).begun,none,(W.c i).closed ++ [(num,told)]⟩)) ks { W with c:=vw (vw W.c i ⟨(W.c i).begun,(W.c i).op,(W.c i).closed ++ [(num,told)]⟩) i ⟨(W.c i).begun,none,(W.c i).closed ++ [(num,told)]⟩ } x:=a1.setCaller i ⟨(W.c i).begun,none,(W.c i).closed ++ [(num,told)]⟩ (congrArg CS.closed hself).symm
   rw [zfe] at a2
   exact z8 (v:=.none) (s':=t.put (3,i) (k5 i ⟨(W.c i).begun,none,(W.c i).closed ++ [(num,told)]⟩)) rfl rfl (xj 2 _ ho1 rfl) (zi (zz ⟨rfl,a2,f1.put (of_decide_eq_true (p:=3 < 11) rfl) _⟩))
  ·have e:(W.c i).came num told=W.c i:=by rw [CS.came,hop]; exact if_neg hn
   rw [e,o8]
   exact zt (t:=false) (s':=s) (yy e1 (y0 (e0.trans (congrArg (fun q=>Res.ok (V.bool q) s) (decide_eq_false hn))))) (zi (zz ⟨rfl,a,.refl _ _⟩))
theorem zbh (HP:HouseP P) (hf:P.fns 54=some f_World_has) (n:Nat) (a:WAt s ks W x) (b:Bool) {key:Key} (hk:key∈ks):run P (n + 3) 54 [.ref (1,0),.int (hn b),.str key] s=.ok (.bool ((W.h b).has key)) s:=by
 refine qm (zl hf rfl ?_)
 refine qc (zr (vs:=[.int (hn b)]) rfl ((zg a.o).trans H.m14) rfl (x7 H n b s)) ?_
 refine qc (zr (vs:=[.str key]) rfl ((zg a.o).trans H.m15) rfl (cu H (n + 1) a hk)) ?_
 exact qa (zr (vs:=[.str key]) (gj a rfl rfl) ((zg (a.hh.at_ b).o).trans HP.mhas) rfl (wm HP (n + 1) (a.hh.at_ b) key)) ⟨rfl,rfl⟩
theorem zbp (HP:HouseP P) (hf:P.fns 52=some f_World_home) (n:Nat) (a:WAt s ks W x) {key:Key} (hk:key∈ks):run P (n + 3) 52 [.ref (1,0),.str key] s=.ok (v4 W key) s:=by
 have h0:=wm HP (n + 1) (a.hh.at_ false) key
 have h1:=wm HP (n + 1) (a.hh.at_ true) key
 have o0:=(a.hh.at_ false).o
 have o1:=(a.hh.at_ true).o
 refine qm (zl hf rfl ?_)
 refine qc (zr (vs:=[.str key]) rfl ((zg a.o).trans H.m15) rfl (cu H (n + 1) a hk)) ?_
 refine vx (v:=.lst [.ref (2,0),.ref (2,1)]) (s':=s) (xs:=[.ref (2,0),.ref (2,1)]) (zu rfl (qd a.o rfl)) rfl rfl ?_
 have turn:∀ (b:Bool) (l2:Option V) (rest:List V),(W.h b).has key=false→OkR (jc s false (.lst [.ref (2,0),.ref (2,1)]) (u0 P (run P (n + 2)) (.inl (.loc 2))) (exs P (run P (n + 2)) (n + 2) [.ite (.meth (.loc 2) 0 [.loc 1]) [.ret (some (.attr (.loc 2) 0))] []]) rest [some (.ref (1,0)),some (.str key),some (.ref (2,hx b))] s) (ix P (run P (n + 2)) (n + 2) [.ret (some .none)] fun p t=>flV p.1=v4 W key∧t=s) →
   OkR (jc s false (.lst [.ref (2,0),.ref (2,1)]) (u0 P (run P (n + 2)) (.inl (.loc 2))) (exs P (run P (n + 2)) (n + 2) [.ite (.meth (.loc 2) 0 [.loc 1]) [.ret (some (.attr (.loc 2) 0))] []]) (.ref (2,hx b) :: rest) [some (.ref (1,0)),some (.str key),l2] s) (ix P (run P (n + 2)) (n + 2) [.ret (some .none)] fun p t=>flV p.1=v4 W key∧t=s):=by
  intro b l2 rest hb k
  have hr:=wm HP (n + 1) (a.hh.at_ b) key
  rw [hb] at hr
  rw [xo]
  show OkR (Res.bind (exs P (run P (n + 2)) (n + 2) [.ite (.meth (.loc 2) 0 [.loc 1]) [.ret (some (.attr (.loc 2) 0))] []] [some (.ref (1,0)),some (.str key),some (.ref (2,hx b))] s) _) _
  have e:exs P (run P (n + 2)) (n + 2) [.ite (.meth (.loc 2) 0 [.loc 1]) [.ret (some (.attr (.loc 2) 0))] []] [some (.ref (1,0)),some (.str key),some (.ref (2,hx b))] s=.ok (.next,[some (.ref (1,0)),some (.str key),some (.ref (2,hx b))]) s:=qm (zt (t:=false) (s':=s) (zr (vs:=[.str key]) rfl ((zg (a.hh.at_ b).o).trans HP.mhas) rfl hr) (zi (zz ⟨rfl,rfl⟩)))
  rw [e]
  exact k
 have hit:∀ (b:Bool) (l2:Option V) (rest:List V),(W.h b).has key=true→v4 W key=.int (W.h b).num→OkR (jc s false (.lst [.ref (2,0),.ref (2,1)]) (u0 P (run P (n + 2)) (.inl (.loc 2))) (exs P (run P (n + 2)) (n + 2) [.ite (.meth (.loc 2) 0 [.loc 1]) [.ret (some (.attr (.loc 2) 0))] []]) (.ref (2,hx b) :: rest) [some (.ref (1,0)),some (.str key),l2] s) (ix P (run P (n + 2)) (n + 2) [.ret (some .none)] fun p t=>flV p.1=v4 W key∧t=s):=by
  intro b l2 rest hb hv
  have hr:=wm HP (n + 1) (a.hh.at_ b) key
  rw [hb] at hr
  rw [xo]
  show OkR (Res.bind (exs P (run P (n + 2)) (n + 2) [.ite (.meth (.loc 2) 0 [.loc 1]) [.ret (some (.attr (.loc 2) 0))] []] [some (.ref (1,0)),some (.str key),some (.ref (2,hx b))] s) _) _
  have e:exs P (run P (n + 2)) (n + 2) [.ite (.meth (.loc 2) 0 [.loc 1]) [.ret (some (.attr (.loc 2) 0))] []] [some (.ref (1,0)),some (.str key),some (.ref (2,hx b))] s=.ok (.ret (.int (W.h b).num),[some (.ref (1,0)),some (.str key),some (.ref (2,hx b))]) s:=qm (zt (t:=true) (s':=s) (zr (vs:=[.str key]) rfl ((zg (a.hh.at_ b).o).trans HP.mhas) rfl hr) (qa (zu rfl (qd (a.hh.at_ b).o rfl)) ⟨rfl,rfl⟩))
  rw [e]
  exact ⟨hv.symm,rfl⟩
 cases c0:(W.h false).has key with
 | true=>exact hit false none [.ref (2,1)] c0 (by rw [v4,c0]; exact if_pos rfl)
 | false =>
  refine turn false none [.ref (2,1)] c0 ?_
  cases c1:(W.h true).has key with
  | true=>exact hit true _ [] c1 (by rw [v4,c0,c1]; rfl)
  | false =>
   refine turn true _ [] c1 ?_
   rw [vq]
   show OkR (exs P (run P (n + 2)) (n + 2) [.ret (some .none)] [some (.ref (1,0)),some (.str key),some (.ref (2,hx true))] s) fun p t=>flV p.1=v4 W key∧t=s
   exact qa (v:=.none) (s':=s) rfl ⟨by rw [v4,c0,c1]; rfl,rfl⟩
theorem oy (HP:HouseP P) (ho:P.fns 22=some f_House_owes) (hf:P.fns 61=some f_World_owes) (n:Nat) (a:WAt s ks W x) (b:Bool) (z:HZ (W.h b)) (nd:((W.h b).known.map (·.1)).Nodup) :
  run P (n + 3) 61 [.ref (1,0),.int (hn b)] s=.ok (.ref (14,s.cnt 14)) (s.new 14 (.list ((W.h b).owes.map .str))):=by
 refine qm (zl hf rfl ?_)
 refine qc (zr (vs:=[.int (hn b)]) rfl ((zg a.o).trans H.m14) rfl (x7 H n b s)) ?_
 exact qa (zr (vs:=[]) (gj a rfl rfl) ((zg (a.hh.at_ b).o).trans HP.mowes) rfl (nk HP rfl ho (n + 1) (a.hh.at_ b) z nd)) ⟨rfl,rfl⟩
theorem zf9 {xc yc:Nat} (HP:HouseP P) (hm:P.fns 26=some (f_House_move yc)) (hh:P.fns 52=some f_World_home) (h24:P.meths 0 24=some 52) (h5:P.meths 1 5=some 26) (hf:P.fns 53=some (f_World_move xc)) (n:Nat) (a:WAt s ks W x) {key:Key} (hk:key∈ks) (b:Bool) (hv:v4 W key=.int (hn b)) (z:HZ (W.h b)) {r:Row} (hr:z7 key (W.h b).known=some r) (hs:r.st=.here) :
  OkR (run P (n + 4) 53 [.ref (1,0),.str key] s) fun v u=>v=.none∧WAt u ks { W with h:=upd W.h b ((W.h b).move key r) } x∧Fr NWp s u:=by
 have e1:=zbp H HP hh n a hk
 rw [hv] at e1
 refine zl hf rfl ?_
 refine zn (zr (vs:=[.str key]) rfl ((zg a.o).trans h24) rfl e1) rfl ?_
 refine zt (t:=false) (s':=s) (yu (g:=false) (t:=false) rfl (decide_eq_false nofun)) (zi ?_)
 refine j3 (jn (vs:=[.str key]) (gj a rfl rfl) ((zg (a.hh.at_ b).o).trans h5) rfl (zlu HP hm (n + 1) (a.hh.at_ b) z hr hs)) ?_
 rintro v u ⟨rfl,h1,h2⟩
 exact zz ⟨rfl,a.houses (zo6 h2) (a.hh.deed h1 h2),ziu h2⟩
theorem d7 (HP:HouseP P) (hu:P.fns 29=some f_House_nudge) (h8:P.meths 1 8=some 29) (hf:P.fns 57=some f_World_nudge) (n:Nat) (a:WAt s ks W x) (b:Bool) (z:HZ (W.h b)) (nd:((W.h b).written.map (·.1)).Nodup) (hz:W.post.length + (W.h b).nudge.length≤16777000) :
  ∃ u,run P (n + 3) 57 [.ref (1,0),.int (hn b)] s=.ok .none u∧WAt u ks { W with post:=W.post ++ (W.h b).nudge } x∧Fr NWp s u:=by
 have a1:=a.setPost (W.post ++ (W.h b).nudge)
 rw [List.map_append] at a1
 refine ⟨_,qm (zl hf rfl ?_),a1,u5 (of_decide_eq_true (p:=9 < 11) rfl) _⟩
 refine qc (zr (vs:=[.int (hn b)]) rfl ((zg a.o).trans H.m14) rfl (x7 H n b s)) ?_
 exact qc (v:=.none) (p3 (x:=.ref (9,0)) (vs:=[.lst ((W.h b).nudge.map qp)]) (zu rfl (qd a.o rfl)) (xr a.po) (z5 (zr (vs:=[]) (gj a rfl rfl) ((zg (a.hh.at_ b).o).trans h8) rfl (zfm HP hu n (a.hh.at_ b) z nd)) rfl) (zch s (9,0) _ a.po rfl (by rw [List.length_map,List.length_map]; lia))) (zz ⟨rfl,rfl⟩)
omit H
theorem HH.wrote {h:Bool→HS}{s':MS}{b:Bool} (a:HH s x h) {h':HS} (g:HAt s' (hx b) ⟨(x b).k,s.cnt 5,s.cnt 6,s.cnt 7⟩ h') (f:Fr (At1 (2,hx b)) s s'):HH s' (upd x b ⟨(x b).k,s.cnt 5,s.cnt 6,s.cnt 7⟩) (upd h b h'):=by
 have hw:=fun k=>Nat.ne_of_lt (a.at_ k).iw
 have hl:=fun k=>Nat.ne_of_lt (a.at_ k).il
 have hr:=fun k=>Nat.ne_of_lt (a.at_ k).ir
 refine ⟨fun k=>?_,?_,?_,?_,?_⟩
 ·by_cases e:k=b
  ·subst e; rw [zh,zh]; exact g
  ·rw [v0 e,v0 e]; exact (a.at_ k).step f (hf2 e)
 ·cases b <;> exact a.k
 ·cases b
  ·exact (hw true).symm
  ·exact hw false
 ·cases b
  ·exact (hl true).symm
  ·exact hl false
 ·cases b
  ·exact (hr true).symm
  ·exact hr false
include H
theorem f5 (HP:HouseP P) (hw:P.fns 27=some f_House_write) (h6:P.meths 1 6=some 27) (hf:P.fns 55=some f_World_write) (n:Nat) (a:WAt s ks W x) (b:Bool) (z:HZ (W.h b)) (hz:W.post.length + (W.h b).laid.length≤16777000) (hz2:W.rows.length + (W.h b).fresh.length≤16777000) :
  OkR (run P (n + 3) 55 [.ref (1,0),.int (hn b)] s) fun v u=>v=.none∧(∃ x',WAt u ks { W with h:=upd W.h b (W.h b).write,post:=W.post ++ (W.h b).laid,rows:=W.rows ++ (W.h b).fresh } x')∧Fr NWp s u:=by
 refine zl hf rfl ?_
 refine qc (zr (vs:=[.int (hn b)]) rfl ((zg a.o).trans H.m14) rfl (x7 H n b s)) ?_
 obtain ⟨v,s1,e1,rfl,h1,f1⟩:=qz (zgn HP hw (n + 1) (a.hh.at_ b) z)
 have a1:=a.houses (zo0 f1) (a.hh.wrote h1 f1)
 have la1:s1.heap (6,(x b).la)=some (.list ((W.h b).laid.map qp)):=(f1.1 (6,(x b).la) (a.hh.at_ b).il (ze (by decide))).trans (a.hh.at_ b).la
 have fr1:s1.heap (7,(x b).fr)=some (.list ((W.h b).fresh.map xt)):=(f1.1 (7,(x b).fr) (a.hh.at_ b).ir (ze (by decide))).trans (a.hh.at_ b).fr
 refine zn (zr (vs:=[]) (gj a rfl rfl) ((zg (a.hh.at_ b).o).trans h6) rfl e1) rfl ?_
 refine qc (v:=.none) (p3 (x:=.ref (9,0)) (vs:=[.ref (6,(x b).la)]) (zu rfl (qd a1.o rfl)) (xr a1.po) rfl (zch s1 (9,0) _ a1.po (jm la1) (by rw [List.length_map,List.length_map]; show W.post.length + _≤_; lia))) ?_
 have a2:=a1.setPost (W.post ++ (W.h b).laid)
 rw [List.map_append] at a2
 have f2:=(zjh f1).put (l:=(9,0)) (of_decide_eq_true (p:=9 < 11) rfl) (.list (W.post.map qp ++ (W.h b).laid.map qp))
 have fr2:(s1.put (9,0) (.list (W.post.map qp ++ (W.h b).laid.map qp))).heap (7,(x b).fr)=some (.list ((W.h b).fresh.map xt)):=(zo (ze (by decide))).trans fr1
 generalize s1.put (9,0) (.list (W.post.map qp ++ (W.h b).laid.map qp))=s2 at a2 f2 fr2
 have a3:=a2.setRows (W.rows ++ (W.h b).fresh)
 rw [List.map_append] at a3
 exact qc (v:=.none) (p3 (x:=.ref (10,0)) (vs:=[.ref (7,(x b).fr)]) (zu rfl (qd a2.o rfl)) (xr a2.ro) rfl (zch s2 (10,0) _ a2.ro (jm fr2) (by rw [List.length_map,List.length_map]; show W.rows.length + _≤_; lia))) (zz ⟨rfl,⟨_,a3⟩,f2.put (of_decide_eq_true (p:=10 < 11) rfl) _⟩)
theorem ua (hcc:P.fns 13=some f_Caller_came) (h2:P.meths 2 2=some 13) (n:Nat) (a:WAt s ks W x) (hi:i < W.nc) (num told:Int) (hz:(W.c i).closed.length < 16777000) :
  OkR (run P (n + 4) 48 [.ref (1,0),qp (.answer i num told)] s) fun v u=>v=.none∧WAt u ks { W with c:=vw W.c i ((W.c i).came num told) } x∧Fr NWp s u:=by
 refine zl H.brou rfl (zt (t:=true) (s':=s) rfl ?_)
 refine j3 (jn (vs:=[.int num,.int told]) (zb1 a hi rfl rfl) ((zg (a.co i hi)).trans h2) rfl (zgo H hcc (n + 2) a hi num told hz)) ?_
 rintro v u ⟨rfl,h3,h4⟩
 exact zi (zz ⟨rfl,h3,h4⟩)
theorem u3 (hf:P.fns 49=some f_World_hand) (n:Nat) (a:WAt s ks W x) {p:Nat} (hp:p < W.post.length) {W':WS} (hb:∀ t,WAt t ks { W with post:=W.post.eraseIdx p } x→OkR (run P (n + 4) 48 [.ref (1,0),qp W.post[p]] t) fun v u=>v=.none∧WAt u ks W' x∧Fr NWp t u) :
  OkR (run P (n + 5) 49 [.ref (1,0),.int p] s) fun v u=>v=.none∧WAt u ks W' x∧Fr NWp s u:=by
 have hp':p < (W.post.map qp).length:=by rw [List.length_map]; exact hp
 refine zl hf rfl ?_
 refine qc (zr (vs:=[.int p]) rfl ((zg a.o).trans H.m16) rfl (bx H (n + 2) a hp)) ?_
 have e1:=zk5 s (9,0) (W.post.map qp) p a.po hp'
 rw [zet hp] at e1
 have a1:=a.pop p
 have f1:Fr NWp s (s.put (9,0) (.list ((W.post.map qp).eraseIdx p))):=u5 (of_decide_eq_true (p:=9 < 11) rfl) _
 generalize s.put (9,0) (.list ((W.post.map qp).eraseIdx p))=t at e1 a1 f1
 refine j3 (jn (x:=.ref (1,0)) (vs:=[qp W.post[p]]) (s2:=t) rfl ((zg a.o).trans H.m20) (z5 (p3 (x:=.ref (9,0)) (vs:=[.int p]) (zu rfl (qd a.o rfl)) (xr a.po) rfl e1) rfl) (hb t a1)) ?_
 rintro v u ⟨rfl,h1,h2⟩
 exact zz ⟨rfl,h1,f1.trans h2⟩
theorem dq (hf:P.fns 50=some f_World_twice) (n:Nat) (a:WAt s ks W x) {p:Nat} (hp:p < W.post.length) {W':WS} (hb:OkR (run P (n + 4) 48 [.ref (1,0),qp W.post[p]] s) fun v u=>v=.none∧WAt u ks W' x∧Fr NWp s u) :
  OkR (run P (n + 5) 50 [.ref (1,0),.int p] s) fun v u=>v=.none∧WAt u ks W' x∧Fr NWp s u:=by
 have hp':p < (W.post.map qp).length:=by rw [List.length_map]; exact hp
 refine zl hf rfl ?_
 refine qc (zr (vs:=[.int p]) rfl ((zg a.o).trans H.m16) rfl (bx H (n + 2) a hp)) ?_
 have e1:=eu (jm a.po) p hp'
 rw [zet hp] at e1
 refine j3 (jn (x:=.ref (1,0)) (vs:=[qp W.post[p]]) (s2:=s) rfl ((zg a.o).trans H.m20) (z5 (kh (x:=.ref (9,0)) (y:=.int p) (zu rfl (qd a.o rfl)) rfl e1) rfl) hb) ?_
 rintro v u ⟨rfl,h1,h2⟩
 exact zz ⟨rfl,h1,h2⟩
end
end Mine
end
section
namespace Mine
set_option genCtorIdx false in
structure KI (key:Key) (K D:Bool→Row) (post:List Letter) (laid:Bool→List Letter):Prop where
 side:∀ b,Side (hn b) (K b) (D b) (K (!b)) (D (!b))
 pp:∀ b T a ms,Letter.parcel (hn b) key T a ms∈post→(T - hn b) % 2=0∧PP T (K (!b)) (D (!b))
 pt:∀ b T,Letter.taken (hn b) key T∈post→T≤(D (!b)).turn
 lp:∀ b T a ms,Letter.parcel (hn (!b)) key T a ms∈laid b→(T - hn (!b)) % 2=0∧LP T (K b)
 lt:∀ b T,Letter.taken (hn (!b)) key T∈laid b→T≤(K b).turn
noncomputable def Off (key:Key):Letter→Prop
 | .parcel _ k _ _ _=>k≠key
 | .taken _ k _=>k≠key
 | _=>True
section
variable {key:Key}{K D:Bool→Row}{post:List Letter}{laid:Bool→List Letter}{s:Bool}{T am:Int}{ms:List z9}
theorem x9 (i:Bool):(1:Int) - hn i=hn (!i):=by cases i <;> rfl
theorem vy {P:Bool→Prop} (s:Bool) (h1:P s) (h2:P (!s)):∀ b,P b:=fun b=>by cases s <;> cases b <;> assumption
theorem zai (i:Bool):(!i)≠i:=by cases i <;> decide
theorem zx {α:Type}{f:Bool→α}{v:α}:upd f s v (!s)=f (!s):=v0 (zai s)
theorem not_not (s:Bool):(!!s)=s:=Bool.not_not s
theorem KI.oth (h:KI key K D post laid) (s:Bool):Side (1 - hn s) (K (!s)) (D (!s)) (K s) (D s):=by
 have:=h.side (!s)
 rw [not_not] at this
 rw [x9]; exact this
theorem za5 {K D:Bool→Row} (s:Bool) (h1:Side (hn s) (K s) (D s) (K (!s)) (D (!s))) (h2:Side (1 - hn s) (K (!s)) (D (!s)) (K s) (D s)):∀ b,Side (hn b) (K b) (D b) (K (!b)) (D (!b)) :=
 vy s h1 (by rw [x9] at h2; rw [not_not]; exact h2)
theorem posts {K D K1 D1:Bool→Row}{post:List Letter} (s:Bool) (hp:∀ b T a ms,Letter.parcel (hn b) key T a ms∈post→(T - hn b) % 2=0∧PP T (K (!b)) (D (!b)))
  (h1:∀ T,PP T (K s) (D s)→PP T (K1 s) (D1 s)) (h2:K1 (!s)=K (!s)) (h3:D1 (!s)=D (!s)):∀ b T a ms,Letter.parcel (hn b) key T a ms∈post→(T - hn b) % 2=0∧PP T (K1 (!b)) (D1 (!b)) :=
 vy s (fun T a ms q=>by rw [h2,h3]; exact hp s T a ms q) (fun T a ms q=>by
  have:=hp (!s) T a ms q
  rw [not_not] at this ⊢
  exact ⟨this.1,h1 T this.2⟩)
theorem KI.move (h:KI key K D post laid) (s:Bool) (a:Int) (ms:List z9):KI key (upd K s { K s with st:=.owes }) D post (upd laid s (laid s ++ [.parcel (hn (!s)) key ((K s).turn + 1) a ms])) where
 side:=za5 s (by rw [zh,zx]; exact (h.side s).move) (by rw [zh,zx]; exact (h.oth s).move')
 pp:=posts s h.pp (fun T q=>by rw [zh]; exact q.move) zx rfl
 pt:=h.pt
 lp:=vy s (fun T a ms q=>by
   rw [zh] at q ⊢
   rcases List.mem_append.1 q with q | q
   ·exact ⟨(h.lp s T a ms q).1,(h.lp s T a ms q).2.move⟩
   ·cases List.mem_singleton.1 q
    have:=(h.side s).pk
    have e:=x9 s
    exact ⟨by lia,LP.moved⟩)
  (fun T a ms q=>by rw [zx] at q ⊢; exact h.lp (!s) T a ms q)
 lt:=vy s (fun T q=>by
   rw [zh] at q ⊢
   rcases List.mem_append.1 q with q | q
   ·exact h.lt s T q
   ·cases List.mem_singleton.1 q)
  (fun T q=>by rw [zx] at q ⊢; exact h.lt (!s) T q)
theorem KI.parcel (h:KI key K D post laid) (s:Bool) {a:Int}{ms:List z9} (hm:Letter.parcel (hn s) key T a ms∈post) (ht:(K s).turn < T):KI key (upd K s ⟨.here,T,a,ms⟩) D post (upd laid s (laid s ++ [.taken (hn (!s)) key T])):=by
 obtain ⟨hp,L⟩:=h.pp s T a ms hm
 exact {
  side:=za5 s (by rw [zh,zx]; exact (h.side s).parcel (h.oth s) hp ht L) (by rw [zh,zx]; exact (h.side s).parcel' (h.oth s) hp ht L)
  pp:=posts s h.pp (fun T q=>by rw [zh]; exact q.came (h.side s) ht) zx rfl
  pt:=h.pt
  lp:=vy s (fun T' a ms q=>by
    rw [zh] at q ⊢
    rcases List.mem_append.1 q with q | q
    ·exact ⟨(h.lp s T' a ms q).1,(h.lp s T' a ms q).2.came ht⟩
    ·cases List.mem_singleton.1 q)
   (fun T a ms q=>by rw [zx] at q ⊢; exact h.lp (!s) T a ms q)
  lt:=vy s (fun T' q=>by
    rw [zh] at q ⊢
    rcases List.mem_append.1 q with q | q
    ·exact Int.le_of_lt (Int.lt_of_le_of_lt (h.lt s T' q) ht)
    ·cases List.mem_singleton.1 q; exact Int.le_refl _)
   (fun T q=>by rw [zx] at q ⊢; exact h.lt (!s) T q) }
theorem KI.old (h:KI key K D post laid) (s:Bool) (ht:¬ (K s).turn < T):KI key K D post (upd laid s (laid s ++ [.taken (hn (!s)) key T])) where
 side:=h.side
 pp:=h.pp
 pt:=h.pt
 lp:=vy s (fun T' a ms q=>by
   rw [zh] at q
   rcases List.mem_append.1 q with q | q
   ·exact h.lp s T' a ms q
   ·cases List.mem_singleton.1 q)
  (fun T a ms q=>by rw [zx] at q; exact h.lp (!s) T a ms q)
 lt:=vy s (fun T' q=>by
   rw [zh] at q
   rcases List.mem_append.1 q with q | q
   ·exact h.lt s T' q
   ·cases List.mem_singleton.1 q; lia)
  (fun T q=>by rw [zx] at q; exact h.lt (!s) T q)
theorem KI.taken (h:KI key K D post laid) (s:Bool) (hm:Letter.taken (hn s) key ((K s).turn + 1)∈post):KI key (upd K s ⟨.gone,(K s).turn,0,[]⟩) D post laid where
 side:=za5 s (by rw [zh,zx]; exact (h.side s).taken (h.pt s _ hm)) (by rw [zh,zx]; exact (h.oth s).taken')
 pp:=posts s h.pp (fun T q=>by rw [zh]; exact q.taken) zx rfl
 pt:=h.pt
 lp:=vy s (fun T a ms q=>by rw [zh]; exact ⟨(h.lp s T a ms q).1,(h.lp s T a ms q).2.taken⟩) (fun T a ms q=>by rw [zx]; exact h.lp (!s) T a ms q)
 lt:=vy s (fun T q=>by rw [zh]; exact h.lt s T q) (fun T q=>by rw [zx]; exact h.lt (!s) T q)
theorem KI.write (h:KI key K D post laid) (s:Bool) (hl:∀ L∈laid s,∀ b T a ms,L=.parcel (hn b) key T a ms→b=!s) (hl2:∀ L∈laid s,∀ b T,L=.taken (hn b) key T→b=!s):KI key K (upd D s (K s)) (post ++ laid s) (upd laid s []) where
 side:=za5 s (by rw [zh,zx]; exact (h.side s).write) (by rw [zh,zx]; exact (h.side s).write' (h.oth s))
 pp:=fun b T a ms q=>by
  rcases List.mem_append.1 q with q | q
  ·exact posts (K1:=K) (D1:=upd D s (K s)) s h.pp (fun T q=>by rw [zh]; exact q.write (h.side s)) rfl zx b T a ms q
  ·have e:=hl _ q b T a ms rfl
   subst e
   have:=h.lp s T a ms q
   rw [not_not,zh]
   exact ⟨this.1,this.2.post⟩
 pt:=fun b T q=>by
  rcases List.mem_append.1 q with q | q
  ·have:=h.pt b T q
   by_cases e:(!b)=s
   ·rw [e,zh]
    rw [e] at this
    exact Int.le_trans this (h.side s).le
   ·rw [v0 e]; exact this
  ·have e:=hl2 _ q b T rfl
   subst e
   rw [not_not,zh]
   exact h.lt s T q
 lp:=vy s (fun T a ms q=>by rw [zh] at q; exact (List.not_mem_nil q).elim) (fun T a ms q=>by rw [zx] at q; exact h.lp (!s) T a ms q)
 lt:=vy s (fun T q=>by rw [zh] at q; exact (List.not_mem_nil q).elim) (fun T q=>by rw [zx] at q; exact h.lt (!s) T q)
theorem KI.sleep (h:KI key K D post laid) (s:Bool):KI key (upd K s (D s)) D post (upd laid s []) where
 side:=za5 s (by rw [zh,zx]; exact (h.side s).sleep) (by rw [zh,zx]; exact (h.side s).sleep' (h.oth s))
 pp:=posts s h.pp (fun T q=>by rw [zh]; exact q.sleep) zx rfl
 pt:=h.pt
 lp:=vy s (fun T a ms q=>by rw [zh] at q; exact (List.not_mem_nil q).elim) (fun T a ms q=>by rw [zx] at q ⊢; exact h.lp (!s) T a ms q)
 lt:=vy s (fun T q=>by rw [zh] at q; exact (List.not_mem_nil q).elim) (fun T q=>by rw [zx] at q ⊢; exact h.lt (!s) T q)
theorem KI.inPost (h:KI key K D post laid) {post':List Letter} (hp:∀ L∈post',L∈post∨Off key L):KI key K D post' laid :=
 ⟨h.side,fun b T a ms q=>(hp _ q).elim (h.pp b T a ms) fun o=>absurd rfl o,fun b T q=>(hp _ q).elim (h.pt b T) fun o=>absurd rfl o,h.lp,h.lt⟩
theorem KI.inLaid (h:KI key K D post laid) {laid':Bool→List Letter} (hp:∀ b,∀ L∈laid' b,L∈laid b∨Off key L):KI key K D post laid' :=
 ⟨h.side,h.pp,h.pt,fun b T a ms q=>(hp b _ q).elim (h.lp b T a ms) fun o=>absurd rfl o,fun b T q=>(hp b _ q).elim (h.lt b T) fun o=>absurd rfl o⟩
theorem KI.nudge (h:KI key K D post laid) (s:Bool) (ho:(D s).st=.owes) (a:Int) (ms:List z9):KI key K D (post ++ [.parcel (hn (!s)) key ((D s).turn + 1) a ms]) laid where
 side:=h.side
 pp:=fun b T a ms q=>by
  rcases List.mem_append.1 q with q | q
  ·exact h.pp b T a ms q
  ·have e:=List.mem_singleton.1 q
   have e1:hn b=hn (!s):=by injection e
   have eb:b=!s:=by
    have:=zai s
    cases b <;> cases s <;> first | rfl | (exact absurd e1 (by decide))
   subst eb
   injection e with _ _ e3
   subst e3
   have:=(h.side s).pd
   have e4:=x9 s
   rw [not_not]
   exact ⟨by lia,(h.side s).nudge ho⟩
 pt:=fun b T q=>by
  rcases List.mem_append.1 q with q | q
  ·exact h.pt b T q
  ·cases List.mem_singleton.1 q
 lp:=h.lp
 lt:=h.lt
theorem Side.same {p:Int}{K D K' D' K1 K2:Row} (h:Side p K D K' D') (e1:K1.st=K.st) (e2:K1.turn=K.turn) (e3:K2.turn=K'.turn):Side p K1 D K2 D' :=
 ⟨e2 ▸ h.pk,h.pd,e2 ▸ h.le,e2 ▸ h.up,fun q=>by rw [e2,e3]; exact h.hk (e1 ▸ q),fun q=>by rw [e3]; exact h.hd q,fun q=>by rw [e2]; exact h.gk (e1 ▸ q),h.gd,fun q1 q2=>by rw [e1]; exact h.sm (e2 ▸ q1) q2⟩
theorem KI.same (h:KI key K D post laid) {K1:Bool→Row} (e1:∀ b,(K1 b).st=(K b).st) (e2:∀ b,(K1 b).turn=(K b).turn):KI key K1 D post laid where
 side b:=(h.side b).same (e1 b) (e2 b) (e2 (!b))
 pp b T a ms q:=⟨(h.pp b T a ms q).1,(h.pp b T a ms q).2.tu,(h.pp b T a ms q).2.d,fun e=>by rw [e1]; exact (h.pp b T a ms q).2.k (e2 (!b) ▸ e)⟩
 pt:=h.pt
 lp b T a ms q:=⟨(h.lp b T a ms q).1,by rw [e2]; exact (h.lp b T a ms q).2.tu,fun e=>by rw [e1]; exact (h.lp b T a ms q).2.k (e2 b ▸ e)⟩
 lt b T q:=by rw [e2]; exact h.lt b T q
end
end Mine
end
section
namespace Mine
noncomputable def zb (k:ja) (key:Key):Row:=(z7 key k).getD ⟨.gone,0,0,[]⟩
theorem z3 {k:ja}{key:Key}{r:Row} (h:z7 key k=some r):zb k key=r:=by rw [zb,h]; rfl
theorem qj (k:ja) (key key':Key) (x:Row):zb (qt key x k) key'=if key'=key then x else zb k key':=by
 rw [zb,ol]
 split <;> rfl
noncomputable abbrev KIh (key:Key) (h:Bool→HS) (post:List Letter):Prop:=KI key (fun b=>zb (h b).known key) (fun b=>zb (h b).written key) post (fun b=>(h b).laid)
section
variable {key:Key}{h:Bool→HS}{post:List Letter}{b:Bool}{h':HS}{ks:List Key}{m:Nat}
theorem wo {α β:Type} (f:α→β) (g:Bool→α) (b:Bool) (v:α):(fun k=>f (upd g b v k))=upd (fun k=>f (g k)) b (f v):=by
 funext k
 by_cases e:k=b
 ·subst e; rw [zh,zh]
 ·rw [v0 e,v0 e]
theorem qx {α:Type} (f:Bool→α) (b:Bool):upd f b (f b)=f:=by
 funext k
 by_cases e:k=b
 ·subst e; rw [zh]
 ·rw [v0 e]
theorem KIh.deed (q:KI key (upd (fun b=>zb (h b).known key) b (zb h'.known key)) (upd (fun b=>zb (h b).written key) b (zb h'.written key)) post (upd (fun b=>(h b).laid) b h'.laid)):KIh key (upd h b h') post:=by
 show KI key (fun k=>zb (upd h b h' k).known key) (fun k=>zb (upd h b h' k).written key) post (fun k=>(upd h b h' k).laid)
 rw [wo (fun x:HS=>zb x.known key),wo (fun x:HS=>zb x.written key),wo (fun x:HS=>x.laid)]
 exact q
theorem KIh.quiet (q:KIh key h post) (e1:(zb h'.known key).st=(zb (h b).known key).st) (e2:(zb h'.known key).turn=(zb (h b).known key).turn) (e3:h'.written=(h b).written) (hl:∀ L∈h'.laid,L∈(h b).laid∨Off key L):KIh key (upd h b h') post:=by
 refine KIh.deed ?_
 rw [e3,qx (fun b=>zb (h b).written key)]
 have q1:KI key (upd (fun b=>zb (h b).known key) b (zb h'.known key)) (fun b=>zb (h b).written key) post (fun b=>(h b).laid) :=
  q.same (jf (P:=fun k (r:Row)=>r.st=(zb (h k).known key).st) e1 fun _ _=>rfl) (jf (P:=fun k (r:Row)=>r.turn=(zb (h k).known key).turn) e2 fun _ _=>rfl)
 exact q1.inLaid (jf (P:=fun k (l:List Letter)=>∀ L∈l,L∈(h k).laid∨Off key L) hl fun _ _ _ z=>.inl z)
theorem mi {x:HS}{c n:Int}{k:Key}{w:W}{r:Row} (hk:z7 k x.known=some r) (hs:r.st=.here):(zb (x.called c n k w r).known key).st=(zb x.known key).st∧(zb (x.called c n k w r).known key).turn=(zb x.known key).turn∧(x.called c n k w r).written=x.written∧∀ L∈(x.called c n k w r).laid,L∈x.laid∨∃ t,L=.answer c n t:=by
 have fi:(zb (x.first c n k w r).known key).st=(zb x.known key).st∧(zb (x.first c n k w r).known key).turn=(zb x.known key).turn∧(x.first c n k w r).written=x.written∧∀ L∈(x.first c n k w r).laid,L∈x.laid∨∃ t,L=.answer c n t:=by
  refine ⟨?_,?_,rfl,fun L q=>(List.mem_append.1 q).imp id fun q=>⟨_,List.mem_singleton.1 q⟩⟩
  ·show (zb (qt k _ x.known) key).st=_
   rw [qj]
   split
   ·rename_i e; rw [e,z3 hk,hs]
   ·rfl
  ·show (zb (qt k _ x.known) key).turn=_
   rw [qj]
   split
   ·rename_i e; rw [e,z3 hk]
   ·rfl
 unfold HS.called
 split
 ·split
  ·exact ⟨rfl,rfl,rfl,fun L q=>.inl q⟩
  ·split
   ·exact ⟨rfl,rfl,rfl,fun L q=>(List.mem_append.1 q).imp id fun q=>⟨_,List.mem_singleton.1 q⟩⟩
   ·exact fi
 ·exact fi
theorem KIh.came (q:KIh key h post) (I:HInv (h b) ks m) (nu:(h b).num=hn b) {L:Letter} (hL:L∈post) (ha:x6 b L):KIh key (upd h b ((h b).came L)) post:=by
 cases L with
 | answer=>exact ha.elim
 | call hh c n k w =>
  cases hk:z7 k (h b).known with
  | none=>rw [jq hk,qx]; exact q
  | some r =>
   rw [jk hk]
   by_cases hs:r.st=.here
   ·rw [if_pos hs]
    obtain ⟨e1,e2,e3,e4⟩:=mi (key:=key) (c:=c) (n:=n) (w:=w) hk hs
    exact KIh.quiet q e1 e2 e3 fun L z=>(e4 L z).imp id fun z=>by obtain ⟨t,rfl⟩:=z; exact trivial
   ·rw [if_neg hs,qx]; exact q
 | parcel hh k T a ms =>
  have ha:hh=hn b:=ha
  subst ha
  cases hk:z7 k (h b).known with
  | none=>rw [jg hk,qx]; exact q
  | some r =>
   rw [jb hk]
   by_cases e:key=k
   ·subst e
    have hr:zb (h b).known key=r:=z3 hk
    refine KIh.deed ?_
    show KI key (upd _ b (zb (if r.turn < T then qt key ⟨.here,T,a,ms⟩ (h b).known else (h b).known) key)) (upd (fun b=>zb (h b).written key) b (zb (h b).written key)) post (upd (fun b=>(h b).laid) b ((h b).laid ++ [.taken (1 - (h b).num) key T]))
    rw [qx (fun b=>zb (h b).written key),nu,x9]
    by_cases ht:r.turn < T
    ·rw [if_pos ht,qj,if_pos rfl]
     exact KI.parcel q b hL (by show (zb (h b).known key).turn < T; rw [hr]; exact ht)
    ·rw [if_neg ht,qx (fun b=>zb (h b).known key)]
     exact KI.old q b (by show ¬ (zb (h b).known key).turn < T; rw [hr]; exact ht)
   ·have e0:zb (if r.turn < T then qt k ⟨.here,T,a,ms⟩ (h b).known else (h b).known) key=zb (h b).known key:=by
     split
     ·rw [qj,if_neg e]
     ·rfl
    exact KIh.quiet q (congrArg Row.st e0) (congrArg Row.turn e0) rfl fun L z=>(List.mem_append.1 z).imp id fun z=>by rw [List.mem_singleton.1 z]; exact fun q=>e q.symm
 | taken hh k T =>
  have ha:hh=hn b:=ha
  subst ha
  cases hk:z7 k (h b).known with
  | none=>rw [jo hk,qx]; exact q
  | some r =>
   rw [ji hk]
   by_cases hs:r.st=.owes∧T=r.turn + 1
   ·rw [if_pos hs]
    by_cases e:key=k
    ·subst e
     have hr:zb (h b).known key=r:=z3 hk
     refine KIh.deed ?_
     show KI key (upd _ b (zb (qt key ⟨.gone,r.turn,0,[]⟩ (h b).known) key)) (upd (fun b=>zb (h b).written key) b (zb (h b).written key)) post (upd (fun b=>(h b).laid) b (h b).laid)
     rw [qx (fun b=>zb (h b).written key),qx (fun b=>(h b).laid),qj,if_pos rfl,← hr]
     refine KI.taken q b ?_
     show Letter.taken (hn b) key ((zb (h b).known key).turn + 1)∈post
     rw [hr,← hs.2]; exact hL
    ·have e0:zb (qt k ⟨.gone,r.turn,0,[]⟩ (h b).known) key=zb (h b).known key:=by rw [qj,if_neg e]
     exact KIh.quiet q (congrArg Row.st e0) (congrArg Row.turn e0) rfl fun L z=>.inl z
   ·rw [if_neg hs,qx]; exact q
theorem KIh.move (q:KIh key h post) (nu:(h b).num=hn b) {k:Key}{r:Row} (hk:z7 k (h b).known=some r):KIh key (upd h b ((h b).move k r)) post:=by
 by_cases e:key=k
 ·subst e
  have hr:zb (h b).known key=r:=z3 hk
  refine KIh.deed ?_
  show KI key (upd _ b (zb (qt key { r with st:=.owes } (h b).known) key)) (upd (fun b=>zb (h b).written key) b (zb (h b).written key)) post (upd (fun b=>(h b).laid) b ((h b).laid ++ [.parcel (1 - (h b).num) key (r.turn + 1) r.amt r.marks]))
  rw [qx (fun b=>zb (h b).written key),nu,x9,qj,if_pos rfl,← hr]
  exact KI.move q b _ _
 ·have e0:zb (qt k { r with st:=.owes } (h b).known) key=zb (h b).known key:=by rw [qj,if_neg e]
  exact KIh.quiet q (congrArg Row.st e0) (congrArg Row.turn e0) rfl fun L z=>(List.mem_append.1 z).imp id fun z=>by rw [List.mem_singleton.1 z]; exact fun q=>e q.symm
theorem KIh.sleep (q:KIh key h post):KIh key (upd h b (h b).sleep) post:=by
 refine KIh.deed ?_
 show KI key (upd _ b (zb (h b).written key)) (upd (fun b=>zb (h b).written key) b (zb (h b).written key)) post (upd (fun b=>(h b).laid) b [])
 rw [qx (fun b=>zb (h b).written key)]
 exact KI.sleep q b
noncomputable def zc7 (b:Bool):Letter→Prop
 | .parcel h _ _ _ _=>h=hn b
 | .taken h _ _=>h=hn b
 | _=>True
theorem zc1 {a b:Bool} (e:hn a=hn b):a=b:=by cases a <;> cases b <;> first | rfl | exact absurd e (by decide)
theorem KIh.write (q:KIh key h post) (ha:∀ L∈(h b).laid,zc7 (!b) L):KIh key (upd h b (h b).write) (post ++ (h b).laid):=by
 refine KIh.deed ?_
 show KI key (upd (fun b=>zb (h b).known key) b (zb (h b).known key)) (upd _ b (zb (h b).known key)) (post ++ (h b).laid) (upd (fun b=>(h b).laid) b [])
 rw [qx (fun b=>zb (h b).known key)]
 exact KI.write q b (fun L hL b' T a ms e=>by have:=ha L hL; rw [e] at this; exact zc1 this) (fun L hL b' T e=>by have:=ha L hL; rw [e] at this; exact zc1 this)
theorem KIh.nudges (nu:(h b).num=hn b):∀ (l:ja) (post:List Letter),KIh key h post→(∀ p∈l,z7 p.1 (h b).written=some p.2∧p.2.st=.owes)→KIh key h (post ++ l.map fun p=>qn (h b).num p.1 p.2)
 | [],post,q,_=>by rw [List.map_nil,List.append_nil]; exact q
 | p :: l,post,q,hl=>by
  have hp:=hl p (List.mem_cons_self ..)
  rw [List.map_cons,show post ++ (qn (h b).num p.1 p.2 :: l.map fun p=>qn (h b).num p.1 p.2)=(post ++ [qn (h b).num p.1 p.2]) ++ l.map fun p=>qn (h b).num p.1 p.2 from (List.append_assoc post [qn (h b).num p.1 p.2] _).symm]
  refine KIh.nudges nu l _ ?_ fun x hx=>hl x (List.mem_cons_of_mem _ hx)
  by_cases e:key=p.1
  ·have hr:zb (h b).written key=p.2:=by rw [e]; exact z3 hp.1
   have ho:(zb (h b).written key).st=.owes:=by rw [hr]; exact hp.2
   have:=KI.nudge q b ho p.2.amt p.2.marks
   rw [← x9,← nu] at this
   show KI key _ _ (post ++ [.parcel (1 - (h b).num) p.1 (p.2.turn + 1) p.2.amt p.2.marks]) _
   rw [← e,← hr]
   rw [← hr] at this
   exact this
  ·refine KI.inPost q fun L hL=>(List.mem_append.1 hL).imp id fun z=>?_
   rw [List.mem_singleton.1 z]
   exact fun q=>e q.symm
theorem KIh.nudge (q:KIh key h post) (nu:(h b).num=hn b) (nd:((h b).written.map (·.1)).Nodup):KIh key h (post ++ (h b).nudge) :=
 KIh.nudges nu _ post q fun p hp=>by
  obtain ⟨h1,h2⟩:=List.mem_filter.1 hp
  exact ⟨j9 nd h1,of_decide_eq_true h2⟩
noncomputable def LetOk (ks:List Key) (nc:Nat):Letter→Prop
 | .call h c _ k _=>(∃ b,h=hn b)∧(∃ i:Nat,i < nc∧c=i)∧k∈ks
 | .parcel h k _ _ ms=>(∃ b,h=hn b)∧k∈ks∧MOk ms
 | .taken h k _=>(∃ b,h=hn b)∧k∈ks
 | .answer c _ _=>∃ i:Nat,i < nc∧c=i
set_option genCtorIdx false in
structure WI (ks:List Key) (nc m:Nat) (W:WS):Prop where
 nc_:W.nc=nc
 hi:∀ b,HInv (W.h b) ks m
 nu:∀ b,(W.h b).num=hn b
 ki:∀ key∈ks,KIh key W.h W.post
 po:∀ L∈W.post,LetOk ks nc L
 la:∀ b,∀ L∈(W.h b).laid,LetOk ks nc L∧zc7 (!b) L
 pl:W.post.length + (W.h false).laid.length + (W.h true).laid.length≤8 * m
 rl:W.rows.length + (W.h false).fresh.length + (W.h true).fresh.length≤m
 co:∀ i,i < nc→(∀ p,(W.c i).op=some p→p.2.1∈ks)∧(W.c i).closed.length≤m
set_option genCtorIdx false in
structure More (ks:List Key) (nc:Nat) (b:Bool) (x y:HS):Prop where
 la:∀ L∈y.laid,L∈x.laid∨(LetOk ks nc L∧zc7 (!b) L)
 ll:y.laid.length≤x.laid.length + 1
 fl:y.fresh.length≤x.fresh.length + 1
variable {nc:Nat}{W:WS}
theorem More.refl (x:HS):More ks nc b x x:=⟨fun _ q=>.inl q,Nat.le_succ _,Nat.le_succ _⟩
theorem More.snoc {x y:HS}{L:Letter} (h1:y.laid=x.laid ++ [L]) (h2:LetOk ks nc L∧zc7 (!b) L) (h3:y.fresh.length≤x.fresh.length + 1):More ks nc b x y :=
 ⟨fun L' q=>by rw [h1] at q; exact (List.mem_append.1 q).imp id fun z=>by rw [List.mem_singleton.1 z]; exact h2,by rw [h1,List.length_append]; exact Nat.le_refl _,h3⟩
theorem More.called {x:HS}{c n:Int}{k:Key}{w:Mine.W}{r:Row} (hc:∃ i:Nat,i < nc∧c=i):More ks nc b x (x.called c n k w r):=by
 have fi:More ks nc b x (x.first c n k w r):=.snoc rfl ⟨hc,trivial⟩ (by rw [HS.first,List.length_append]; exact Nat.le_refl _)
 unfold HS.called
 split
 ·split
  ·exact .refl _
  ·split
   ·exact .snoc rfl ⟨hc,trivial⟩ (Nat.le_succ _)
   ·exact fi
 ·exact fi
theorem More.came {x:HS} (nu:x.num=hn b) {L:Letter} (hL:LetOk ks nc L):More ks nc b x (x.came L):=by
 cases L with
 | answer=>exact .refl _
 | call hh c n k w =>
  cases hk:z7 k x.known with
  | none=>rw [jq hk]; exact .refl _
  | some r =>
   rw [jk hk]
   split
   ·exact .called hL.2.1
   ·exact .refl _
 | parcel hh k T a ms =>
  cases hk:z7 k x.known with
  | none=>rw [jg hk]; exact .refl _
  | some r =>
   rw [jb hk]
   have e:=x9 b
   exact .snoc rfl ⟨⟨⟨!b,by rw [nu]; exact e⟩,hL.2.1⟩,by rw [nu]; exact e⟩ (Nat.le_succ _)
 | taken hh k T =>
  cases hk:z7 k x.known with
  | none=>rw [jo hk]; exact .refl _
  | some r =>
   rw [ji hk]
   split
   ·exact ⟨fun _ q=>.inl q,Nat.le_succ _,Nat.le_succ _⟩
   ·exact .refl _
theorem LetOk.mk (h6:nc≤6) {L:Letter} (hL:LetOk ks nc L):LMk L:=by
 cases L with
 | call=>obtain ⟨-,⟨i,hi,rfl⟩,-⟩:=hL; exact ⟨by lia,by lia⟩
 | parcel=>exact hL.2.2
 | taken=>exact trivial
 | answer=>exact trivial
theorem m9 {f:Bool→HS}{y:HS} (b:Bool) (g:HS→Nat) (hg:g y≤g (f b) + 1):g (upd f b y false) + g (upd f b y true)≤g (f false) + g (f true) + 1:=by
 cases b
 ·show g y + g (f true)≤_; lia
 ·show g (f false) + g y≤_; lia
theorem WI.house (a:WI ks nc m W) (b:Bool) {y:HS} (hy:HInv y ks (m + 1)) (hnu:y.num=hn b) (hki:∀ key∈ks,KIh key (upd W.h b y) W.post) (hm:More ks nc b (W.h b) y):WI ks nc (m + 1) { W with h:=upd W.h b y } where
 nc_:=a.nc_
 hi:=jf (P:=fun _ h=>HInv h ks (m + 1)) hy fun k _=>(a.hi k).mono (Nat.le_succ _)
 nu:=jf (P:=fun k (h:HS)=>h.num=hn k) hnu fun k _=>a.nu k
 ki:=hki
 po:=a.po
 la:=jf (P:=fun k (h:HS)=>∀ L∈h.laid,LetOk ks nc L∧zc7 (!k) L) (fun L q=>(hm.la L q).elim (a.la b L) id) fun k _=>a.la k
 pl:=by
  have h1:=m9 (f:=W.h) b (fun h=>h.laid.length) hm.ll
  have h2:=a.pl
  show W.post.length + _ + _≤_
  dsimp only at h1 ⊢
  lia
 rl:=by
  have h1:=m9 (f:=W.h) b (fun h=>h.fresh.length) hm.fl
  have h2:=a.rl
  show W.rows.length + _ + _≤_
  dsimp only at h1 ⊢
  lia
 co:=fun i hi=>⟨(a.co i hi).1,Nat.le_succ_of_le (a.co i hi).2⟩
theorem WI.came (a:WI ks nc m W) (h6:nc≤6) {L:Letter} (hL:L∈W.post) (ha:x6 b L):WI ks nc (m + 1) { W with h:=upd W.h b ((W.h b).came L) } :=
 a.house b ((a.hi b).came L (LetOk.mk h6 (a.po L hL))) ((zhy _ _).trans (a.nu b)) (fun key hk=>(a.ki key hk).came (a.hi b) (a.nu b) hL ha) (More.came (a.nu b) (a.po L hL))
theorem WI.move (a:WI ks nc m W) {k:Key}{r:Row} (hk:z7 k (W.h b).known=some r) (hks:k∈ks):WI ks nc (m + 1) { W with h:=upd W.h b ((W.h b).move k r) } :=
 a.house b ((a.hi b).move hk) (a.nu b) (fun key hkey=>(a.ki key hkey).move (a.nu b) hk)
  (.snoc rfl ⟨⟨⟨!b,by rw [a.nu b]; exact x9 b⟩,hks,(a.hi b).kk _ (vm hk)⟩,by show 1 - (W.h b).num=_; rw [a.nu b]; exact x9 b⟩ (Nat.le_succ _))
theorem WI.sleep (a:WI ks nc m W) (b:Bool):WI ks nc (m + 1) { W with h:=upd W.h b (W.h b).sleep } :=
 a.house b ((a.hi b).sleep.mono (Nat.le_succ _)) (a.nu b) (fun key hk=>(a.ki key hk).sleep) ⟨fun L q=>(List.not_mem_nil q).elim,Nat.zero_le _,Nat.zero_le _⟩
theorem WI.setPost (a:WI ks nc m W) {post':List Letter} (hki:∀ key∈ks,KIh key W.h post') (hpo:∀ L∈post',LetOk ks nc L) (hl:post'.length≤W.post.length + 8):WI ks nc (m + 1) { W with post:=post' } :=
 ⟨a.nc_,fun b=>(a.hi b).mono (Nat.le_succ _),a.nu,hki,hpo,a.la,by have:=a.pl; show post'.length + (W.h false).laid.length + (W.h true).laid.length≤_; lia,Nat.le_succ_of_le a.rl,fun i hi=>⟨(a.co i hi).1,Nat.le_succ_of_le (a.co i hi).2⟩⟩
theorem WI.erase (a:WI ks nc m W) (p:Nat):WI ks nc (m + 1) { W with post:=W.post.eraseIdx p } :=
 a.setPost (fun key hk=>(a.ki key hk).inPost fun L q=>.inl (List.mem_of_mem_eraseIdx q)) (fun L q=>a.po L (List.mem_of_mem_eraseIdx q)) (Nat.le_trans (List.length_eraseIdx_le ..) (Nat.le_add_right _ _))
theorem WI.post1 (a:WI ks nc m W) (c:Bool) {i:Nat} (hi:i < nc) (n:Int) {k:Key} (hk:k∈ks) (w:Mine.W):WI ks nc (m + 1) { W with post:=W.post ++ [.call (hn c) i n k w] } :=
 a.setPost (fun key hkey=>(a.ki key hkey).inPost fun L q=>(List.mem_append.1 q).imp id fun z=>by rw [List.mem_singleton.1 z]; exact trivial)
  (y5 a.po ⟨⟨c,rfl⟩,⟨i,hi,rfl⟩,hk⟩) (by rw [List.length_append]; exact Nat.add_le_add_left (show 1≤8 by decide) _)
theorem WI.nudge (a:WI ks nc m W) (b:Bool) (nd:ks.Nodup) (h6:ks.length≤6):WI ks nc (m + 1) { W with post:=W.post ++ (W.h b).nudge } :=
 a.setPost (fun key hk=>(a.ki key hk).nudge (a.nu b) (by rw [(a.hi b).hw]; exact nd))
  (fun L q=>(List.mem_append.1 q).elim (a.po L) fun q=>by
   obtain ⟨p,hp,rfl⟩:=List.mem_map.1 q
   have h1:=(List.mem_filter.1 hp).1
   exact ⟨⟨!b,by rw [a.nu b]; exact x9 b⟩,by rw [← (a.hi b).hw]; exact List.mem_map.2 ⟨p,h1,rfl⟩,(a.hi b).kw p h1⟩)
  (by rw [List.length_append]; have:=bf (a.hi b); lia)
theorem WI.write (a:WI ks nc m W) (b:Bool):WI ks nc (m + 1) { W with h:=upd W.h b (W.h b).write,post:=W.post ++ (W.h b).laid,rows:=W.rows ++ (W.h b).fresh } where
 nc_:=a.nc_
 hi:=jf (P:=fun _ h=>HInv h ks (m + 1)) ((a.hi b).write.mono (Nat.le_succ _)) fun k _=>(a.hi k).mono (Nat.le_succ _)
 nu:=jf (P:=fun k (h:HS)=>h.num=hn k) (a.nu b) fun k _=>a.nu k
 ki:=fun key hk=>(a.ki key hk).write fun L hL=>(a.la b L hL).2
 po:=fun L q=>(List.mem_append.1 q).elim (a.po L) fun q=>(a.la b L q).1
 la:=jf (P:=fun k (h:HS)=>∀ L∈h.laid,LetOk ks nc L∧zc7 (!k) L) (fun L q=>(List.not_mem_nil q).elim) fun k _=>a.la k
 pl:=by
  have h2:=a.pl
  show (W.post ++ (W.h b).laid).length + _ + _≤_
  rw [List.length_append]
  cases b
  ·show _ + 0 + (W.h true).laid.length≤_; lia
  ·show _ + (W.h false).laid.length + 0≤_; lia
 rl:=by
  have h2:=a.rl
  show (W.rows ++ (W.h b).fresh).length + _ + _≤_
  rw [List.length_append]
  cases b
  ·show _ + 0 + (W.h true).fresh.length≤_; lia
  ·show _ + (W.h false).fresh.length + 0≤_; lia
 co:=fun i hi=>⟨(a.co i hi).1,Nat.le_succ_of_le (a.co i hi).2⟩
theorem WI.caller (a:WI ks nc m W) (i:Nat) (c:CS) (h1:∀ p,c.op=some p→p.2.1∈ks) (h2:c.closed.length≤m + 1):WI ks nc (m + 1) { W with c:=vw W.c i c } :=
 ⟨a.nc_,fun b=>(a.hi b).mono (Nat.le_succ _),a.nu,a.ki,a.po,a.la,Nat.le_trans a.pl (by lia),Nat.le_succ_of_le a.rl,fun j hj=>by
  show (∀ p,(if j=i then c else W.c j).op=some p→p.2.1∈ks)∧(if j=i then c else W.c j).closed.length≤m + 1
  split
  ·exact ⟨h1,h2⟩
  ·exact ⟨(a.co j hj).1,Nat.le_succ_of_le (a.co j hj).2⟩⟩
theorem WI.answer (a:WI ks nc m W) {i:Nat} (hi:i < nc) (num told:Int):WI ks nc (m + 1) { W with c:=vw W.c i ((W.c i).came num told) }:=by
 obtain ⟨h1,h2⟩:=a.co i hi
 refine a.caller i _ ?_ ?_
 ·intro p hp
  unfold CS.came at hp
  split at hp
  ·split at hp
   ·cases hp
   ·exact h1 p hp
  ·exact h1 p hp
 ·unfold CS.came
  split
  ·split
   ·rw [List.length_append]; exact Nat.succ_le_succ h2
   ·exact Nat.le_succ_of_le h2
  ·exact Nat.le_succ_of_le h2
theorem WI.new (nd:ks.Nodup) (nc:Nat):WI ks nc 0 (W0 ks nc) where
 nc_:=rfl
 hi b:=HInv.new (hn b) nd
 nu b:=rfl
 ki:=fun key hk=>by
  have e:∀ b,zb (HS.new (hn b) ks).known key=bu (hn b):=fun b=>by
   refine z3 (j9 ?_ ?_)
   ·rw [we (hn b) nd,List.map_map]; exact (List.map_id ks).symm ▸ nd
   ·rw [we (hn b) nd]; exact List.mem_map.2 ⟨key,hk,rfl⟩
  have e':∀ b,zb (HS.new (hn b) ks).written key=bu (hn b):=e
  refine ⟨fun b=>?_,fun b T a ms q=>(List.not_mem_nil q).elim,fun b T q=>(List.not_mem_nil q).elim,fun b T a ms q=>(List.not_mem_nil q).elim,fun b T q=>(List.not_mem_nil q).elim⟩
  show Side (hn b) (zb (HS.new (hn b) ks).known key) (zb (HS.new (hn b) ks).written key) (zb (HS.new (hn (!b)) ks).known key) (zb (HS.new (hn (!b)) ks).written key)
  rw [e,e',e,e']
  cases b
  ·exact ⟨by decide,by decide,by decide,by decide,fun _=>by decide,fun _=>by decide,nofun,nofun,fun _ h=>h⟩
  ·exact ⟨by decide,by decide,by decide,by decide,nofun,nofun,fun _=>by decide,fun _=>by decide,fun _ h=>h⟩
 po:=fun L q=>(List.not_mem_nil q).elim
 la:=fun b L q=>(List.not_mem_nil q).elim
 pl:=Nat.le_refl _
 rl:=Nat.le_refl _
 co:=fun i _=>⟨nofun,Nat.le_refl _⟩
end
end Mine
end
section
namespace Mine
noncomputable def ziw (a:Int) (ms:List z9) (r:LRow):Prop:=r.told=(dn a r.w).2∧∀ p,je r.c ms=some p→p.1 < r.n
noncomputable def zd6 (a:Int) (ms:List z9) (r:LRow):List z9:=cy (r.c,r.n,(dn a r.w).2) ms
noncomputable def Chain:Int→List z9→List LRow→Int→List z9→Prop
  | a,ms,[],a',ms'=>a'=a∧ms'=ms
  | a,ms,r :: l,a',ms'=>ziw a ms r∧Chain (dn a r.w).1 (zd6 a ms r) l a' ms'
theorem Chain.app {a1 a2:Int}{m1 m2:List z9}{l2:List LRow}:∀ {l:List LRow}{a:Int}{ms:List z9},Chain a ms l a1 m1→Chain a1 m1 l2 a2 m2→Chain a ms (l ++ l2) a2 m2
  | [],_,_,⟨e1,e2⟩,h2=>by subst e1; subst e2; exact h2
  | _ :: _,_,_,⟨g,h1⟩,h2=>⟨g,h1.app h2⟩
theorem Chain.nil {a:Int}{ms:List z9}:Chain a ms [] a ms:=⟨rfl,rfl⟩
theorem Chain.snoc {a a1:Int}{ms m1:List z9}{l:List LRow}{r:LRow} (h:Chain a ms l a1 m1) (g:ziw a1 m1 r):Chain a ms (l ++ [r]) (dn a1 r.w).1 (zd6 a1 m1 r):=h.app ⟨g,.nil⟩
noncomputable def qe (key:Key) (l:List LRow):List LRow:=l.filter fun r=>decide (r.k=key)
theorem gf (key:Key) (l l':List LRow):qe key (l ++ l')=qe key l ++ qe key l':=List.filter_append ..
theorem zjm (r:LRow):qe r.k [r]=[r]:=by rw [qe,List.filter_cons,if_pos (decide_eq_true rfl)]; rfl
theorem zg7 {key:Key}{r:LRow} (h:r.k≠key):qe key [r]=[]:=by rw [qe,List.filter_cons,if_neg (by rw [decide_eq_false h]; exact Bool.false_ne_true)]; rfl
noncomputable def Is (r:Row) (a:Int) (ms:List z9):Prop:=r.amt=a∧r.marks=ms
noncomputable def Live (K D:Row):Prop:=K.st=.here∨(K.st=.owes∧(K.turn=D.turn→D.st=.here))
noncomputable def PC (T a:Int) (ms:List z9) (X:Row):Prop:=X.turn=T - 1→X.st=.owes→Is X a ms
section
variable {p T am:Int}{K D K' D':Row}{ms:List z9}
theorem Live.lt (h:Live K D) (a:Side p K D K' D') (b:Side (1 - p) K' D' K D):K'.turn < K.turn:=by
  rcases h with h | ⟨h,g⟩
  · exact a.hk h
  · by_cases e:K.turn=D.turn
    · have:=a.hd (g e); lia
    · have h1:=a.le; have h2:=b.up; have h3:=a.pk; have h4:=a.pd
      lia
theorem oo (h:Live K K):K.st=.here:=h.elim id fun q=>q.2 rfl
theorem PC.here {X:Row}{a:Int} (h:X.st≠.owes):PC T a ms X:=fun _ e=>absurd e h
theorem zfw {A a:Int}{M ms:List z9} (sa:Side p K D K' D') (sb:Side (1 - p) K' D' K D) (ht:(T - p) % 2=0) (h:K.turn < T) (L:PP T K' D') (pc:PC T a ms D') (dw:D'.st=.owes→D.turn≤D'.turn→Is D' A M):a=A∧ms=M:=by
  have h1:=sa.lt sb ht h; have h2:=L.tu; have h3:=sb.le; have h4:=sa.le
  have e:D'.turn=T - 1:=by lia
  have ho:D'.st=.owes:=by
    cases q:D'.st with
    | here=>exact absurd q (L.d e)
    | owes=>rfl
    | gone=>have:=sb.gd q; lia
  have i1:=pc e ho
  have i2:=dw ho (by lia)
  exact ⟨i1.1.symm.trans i2.1,i1.2.symm.trans i2.2⟩
end
set_option genCtorIdx false in
structure TI (key:Key) (K D:Bool→Row) (post:List Letter) (laid:Bool→List Letter) (R:List LRow) (F:Bool→List LRow) (A:Int) (M:List z9):Prop where
  ch:Chain 0 [] R A M
  dh:∀ b,(D b).st=.here→Is (D b) A M
  dw:∀ b,(D b).st=.owes→(D (!b)).turn≤(D b).turn→Is (D b) A M
  kl:∀ b,Live (K b) (D b)→Chain A M (F b) (K b).amt (K b).marks
  kf:∀ b,¬ Live (K b) (D b)→F b=[]
  s1:∀ b,(K b).turn=(D b).turn→(D b).st=.owes→(K b).st=.owes→Is (K b) (D b).amt (D b).marks
  pp:∀ b T a ms,Letter.parcel (hn b) key T a ms∈post→PC T a ms (K (!b))∧PC T a ms (D (!b))
  lp:∀ b T a ms,Letter.parcel (hn (!b)) key T a ms∈laid b→PC T a ms (K b)
section
variable {key:Key}{K D:Bool→Row}{post:List Letter}{laid:Bool→List Letter}{R:List LRow}{F:Bool→List LRow}{A:Int}{M:List z9}
theorem TI.setK (h:TI key K D post laid R F A M) (s:Bool) {x:Row}{fs:List LRow}{la:List Letter} (kl:Live x (D s)→Chain A M fs x.amt x.marks) (kf:¬ Live x (D s)→fs=[])
    (s1:x.turn=(D s).turn→(D s).st=.owes→x.st=.owes→Is x (D s).amt (D s).marks)
    (pp:∀ T a ms,Letter.parcel (hn (!s)) key T a ms∈post→PC T a ms (K s)→PC T a ms (D s)→PC T a ms x)
    (lp:∀ T a ms,Letter.parcel (hn (!s)) key T a ms∈la→PC T a ms x):TI key (upd K s x) D post (upd laid s la) R (upd F s fs) A M where
  ch:=h.ch
  dh:=h.dh
  dw:=h.dw
  kl:=vy s (by rw [zh,zh]; exact kl) (by rw [zx,zx]; exact h.kl (!s))
  kf:=vy s (by rw [zh,zh]; exact kf) (by rw [zx,zx]; exact h.kf (!s))
  s1:=vy s (by rw [zh]; exact s1) (by rw [zx]; exact h.s1 (!s))
  pp:=vy s (fun T a ms q=>by rw [zx]; exact h.pp s T a ms q) (fun T a ms q=>by
    have z:=h.pp (!s) T a ms q
    rw [not_not] at z ⊢
    rw [zh]
    exact ⟨pp T a ms q z.1 z.2,z.2⟩)
  lp:=vy s (fun T a ms q=>by rw [zh] at q ⊢; exact lp T a ms q) (fun T a ms q=>by rw [zx] at q ⊢; exact h.lp (!s) T a ms q)
theorem TI.first (h:TI key K D post laid R F A M) (s:Bool) (hs:(K s).st=.here) {r:LRow} (g:ziw (K s).amt (K s).marks r) {la:List Letter}:TI key (upd K s ⟨.here,(K s).turn,(dn (K s).amt r.w).1,zd6 (K s).amt (K s).marks r⟩) D post (upd laid s la) R (upd F s (F s ++ [r])) A M :=
  h.setK s (fun _=>(h.kl s (.inl hs)).snoc g) (fun n=>absurd (.inl rfl) n) (fun _ _=>nofun) (fun _ _ _ _ _ _=>.here nofun) (fun _ _ _ _=>.here nofun)
theorem TI.move (h:TI key K D post laid R F A M) (k:KI key K D post laid) (s:Bool) (hs:(K s).st=.here):TI key (upd K s { K s with st:=.owes }) D post (upd laid s (laid s ++ [.parcel (hn (!s)) key ((K s).turn + 1) (K s).amt (K s).marks])) R (upd F s (F s)) A M :=
  h.setK s (fun _=>h.kl s (.inl hs))
    (fun n=>by
      refine absurd (.inr ⟨rfl,fun e=>?_⟩) n
      cases q:(D s).st with
      | here=>rfl
      | owes=>exact absurd hs ((k.side s).sm e (by rw [q]; decide))
      | gone=>exact absurd hs ((k.side s).sm e (by rw [q]; decide)))
    (fun e ho _=>absurd hs ((k.side s).sm e (by rw [ho]; decide)))
    (fun T a ms q _ _ e _=>by
      have:=(k.pp (!s) T a ms q).2
      rw [not_not] at this
      exact absurd hs (this.k e))
    (fun T a ms q e _=>by
      rcases List.mem_append.1 q with q | q
      · exact absurd hs ((k.lp s T a ms q).2.k e)
      · cases List.mem_singleton.1 q; exact ⟨rfl,rfl⟩)
theorem TI.parcel (h:TI key K D post laid R F A M) (k:KI key K D post laid) (s:Bool) {T a:Int}{ms:List z9} (hm:Letter.parcel (hn s) key T a ms∈post) (ht:(K s).turn < T) {la:List Letter}:TI key (upd K s ⟨.here,T,a,ms⟩) D post (upd laid s la) R (upd F s (F s)) A M:=by
  obtain ⟨par,L⟩:=k.pp s T a ms hm
  have dw:=h.dw (!s)
  rw [not_not] at dw
  obtain ⟨rfl,rfl⟩:=zfw (k.side s) (k.oth s) par ht L (h.pp s T a ms hm).2 dw
  have nl:¬ Live (K s) (D s):=fun l=>by
    have h1:=l.lt (k.side s) (k.oth s); have h2:=L.tu; have h3:=(k.oth s).le
    lia
  exact h.setK s (fun _=>by rw [h.kf s nl]; exact .nil) (fun n=>absurd (.inl rfl) n) (fun _ _=>nofun) (fun _ _ _ _ _ _=>.here nofun) (fun _ _ _ _=>.here nofun)
theorem TI.taken (h:TI key K D post laid R F A M) (k:KI key K D post laid) (s:Bool) (hm:Letter.taken (hn s) key ((K s).turn + 1)∈post) {la:List Letter}:TI key (upd K s ⟨.gone,(K s).turn,0,[]⟩) D post (upd laid s la) R (upd F s (F s)) A M:=by
  have nl:¬ Live (K s) (D s):=fun l=>by
    have h1:=l.lt (k.side s) (k.oth s); have h2:=k.pt s _ hm; have h3:=(k.oth s).le
    lia
  refine h.setK s (fun l=>?_) (fun _=>h.kf s nl) (fun _ _=>nofun) (fun _ _ _ _ _ _=>.here nofun) (fun _ _ _ _=>.here nofun)
  rcases l with l | l
  · exact nomatch l
  · exact nomatch l.1
theorem TI.sleep (h:TI key K D post laid R F A M) (s:Bool):TI key (upd K s (D s)) D post (upd laid s []) R (upd F s []) A M :=
  h.setK s (fun l=>by obtain ⟨e1,e2⟩:=h.dh s (oo l); rw [e1,e2]; exact .nil) (fun _=>rfl) (fun _ _ _=>⟨rfl,rfl⟩) (fun _ _ _ _ _ z=>z) (fun _ _ _ q=>(List.not_mem_nil q).elim)
theorem TI.quiet (h:TI key K D post laid R F A M) {post':List Letter}{laid':Bool→List Letter} (hp:∀ L∈post',L∈post∨Off key L) (hl:∀ b,∀ L∈laid' b,L∈laid b∨Off key L):TI key K D post' laid' R F A M :=
  ⟨h.ch,h.dh,h.dw,h.kl,h.kf,h.s1,fun b T a ms q=>(hp _ q).elim (h.pp b T a ms) fun o=>absurd rfl o,fun b T a ms q=>(hl b _ q).elim (h.lp b T a ms) fun o=>absurd rfl o⟩
theorem TI.nudge (h:TI key K D post laid R F A M) (s:Bool) (ho:(D s).st=.owes):TI key K D (post ++ [.parcel (hn (!s)) key ((D s).turn + 1) (D s).amt (D s).marks]) laid R F A M :=
  ⟨h.ch,h.dh,h.dw,h.kl,h.kf,h.s1,fun b T a ms q=>by
      rcases List.mem_append.1 q with q | q
      · exact h.pp b T a ms q
      · have e:=List.mem_singleton.1 q
        have eb:b=!s:=by
          have e1:hn b=hn (!s):=by injection e
          cases b <;> cases s <;> first | rfl | (exact absurd e1 (by decide))
        subst eb
        injection e with _ _ e3 e4 e5
        subst e3; subst e4; subst e5
        rw [not_not]
        exact ⟨fun e1 e2=>h.s1 s (by lia) ho e2,fun _ _=>⟨rfl,rfl⟩⟩,h.lp⟩
theorem TI.write (h:TI key K D post laid R F A M) (k:KI key K D post laid) (s:Bool) (hl:∀ L∈laid s,∀ b T a ms,L=.parcel (hn b) key T a ms→b=!s):∃ A' M',TI key K (upd D s (K s)) (post ++ laid s) (upd laid s []) (R ++ F s) (upd F s []) A' M':=by
  have gen:∀ A' M',Chain A M (F s) A' M'→((K s).st=.here→Is (K s) A' M')→((D (!s)).st=.here→Is (D (!s)) A' M')→((K s).st=.owes→(D (!s)).turn≤(K s).turn→Is (K s) A' M') →
      ((D (!s)).st=.owes→(K s).turn≤(D (!s)).turn→Is (D (!s)) A' M')→(Live (K (!s)) (D (!s))→Chain A' M' (F (!s)) (K (!s)).amt (K (!s)).marks)→TI key K (upd D s (K s)) (post ++ laid s) (upd laid s []) (R ++ F s) (upd F s []) A' M':=fun A' M' c h1 h2 h3 h4 h5 =>
    { ch:=h.ch.app c
      dh:=vy s (by rw [zh]; exact h1) (by rw [zx]; exact h2)
      dw:=vy s (by rw [zh,zx]; exact h3) (by rw [not_not,zh,zx]; exact h4)
      kl:=vy s (by rw [zh,zh]; exact fun l=>by obtain ⟨e1,e2⟩:=h1 (oo l); rw [e1,e2]; exact .nil) (by rw [zx,zx]; exact h5)
      kf:=vy s (by rw [zh,zh]; exact fun _=>rfl) (by rw [zx,zx]; exact h.kf (!s))
      s1:=vy s (by rw [zh]; exact fun _ _ _=>⟨rfl,rfl⟩) (by rw [zx]; exact h.s1 (!s))
      pp:=fun b T a ms q=>by
        rcases List.mem_append.1 q with q | q
        · have z:=h.pp b T a ms q
          refine ⟨z.1,?_⟩
          by_cases e:(!b)=s
          · rw [e,zh]; rw [e] at z; exact z.1
          · rw [v0 e]; exact z.2
        · have e:=hl _ q b T a ms rfl
          subst e
          have z:=h.lp s T a ms q
          rw [not_not,zh]
          exact ⟨z,z⟩
      lp:=vy s (fun T a ms q=>by rw [zh] at q; exact (List.not_mem_nil q).elim) (fun T a ms q=>by rw [zx] at q; exact h.lp (!s) T a ms q) }
  have le:=(k.oth s).le
  by_cases l:Live (K s) (D s)
  · have lt:=l.lt (k.side s) (k.oth s)
    have nl:¬ Live (K (!s)) (D (!s)):=fun l2=>by have:=l2.lt (k.oth s) (by have:=k.side s; rwa [show (1:Int) - (1 - hn s)=hn s by lia]); lia
    exact ⟨_,_,gen _ _ (h.kl s l) (fun _=>⟨rfl,rfl⟩) (fun e=>by have:=(k.oth s).hd e; lia) (fun _ _=>⟨rfl,rfl⟩) (fun _ e=>by lia) (fun l2=>absurd l2 nl)⟩
  · refine ⟨A,M,gen A M (by rw [h.kf s l]; exact .nil) (fun e=>absurd (.inl e) l) (h.dh (!s)) (fun e1 e2=>?_) (fun e1 e2=>?_) (h.kl (!s))⟩
    · by_cases e:(K s).turn=(D s).turn
      · cases q:(D s).st with
        | here=>exact absurd (.inr ⟨e1,fun _=>q⟩) l
        | owes =>
          have i1:=h.s1 s e q e1
          have i2:=h.dw s q (by lia)
          exact ⟨i1.1.trans i2.1,i1.2.trans i2.2⟩
        | gone=>have:=(k.side s).gd q; lia
      · exact absurd (.inr ⟨e1,fun q=>absurd q e⟩) l
    · have:=h.dw (!s) e1
      rw [not_not] at this
      exact this (by have:=(k.side s).le; lia)
end
end Mine
end
section
namespace Mine
noncomputable abbrev TIh (key:Key) (h:Bool→HS) (post:List Letter) (rows:List LRow):Prop :=
 ∃ A M,TI key (fun b=>zb (h b).known key) (fun b=>zb (h b).written key) post (fun b=>(h b).laid) (qe key rows) (fun b=>qe key (h b).fresh) A M
section
variable {key:Key}{h:Bool→HS}{post:List Letter}{rows:List LRow}{b:Bool}{h':HS}{ks:List Key}{m:Nat}{A:Int}{M:List z9}
theorem TIh.deed (q:TI key (upd (fun b=>zb (h b).known key) b (zb h'.known key)) (upd (fun b=>zb (h b).written key) b (zb h'.written key)) post (upd (fun b=>(h b).laid) b h'.laid) (qe key rows) (upd (fun b=>qe key (h b).fresh) b (qe key h'.fresh)) A M):TIh key (upd h b h') post rows:=by
 refine ⟨A,M,?_⟩
 show TI key (fun k=>zb (upd h b h' k).known key) (fun k=>zb (upd h b h' k).written key) post (fun k=>(upd h b h' k).laid) (qe key rows) (fun k=>qe key (upd h b h' k).fresh) A M
 rw [wo (fun x:HS=>zb x.known key),wo (fun x:HS=>zb x.written key),wo (fun x:HS=>x.laid),wo (fun x:HS=>qe key x.fresh)]
 exact q
theorem TIh.off (q:TIh key h post rows) (e1:zb h'.known key=zb (h b).known key) (e3:h'.written=(h b).written) (hl:∀ L∈h'.laid,L∈(h b).laid∨Off key L) (ef:qe key h'.fresh=qe key (h b).fresh):TIh key (upd h b h') post rows:=by
 obtain ⟨A,M,q⟩:=q
 refine TIh.deed (A:=A) (M:=M) ?_
 rw [e3,e1,ef,qx (fun b=>zb (h b).written key),qx (fun b=>zb (h b).known key),qx (fun b=>qe key (h b).fresh)]
 exact q.quiet (fun L z=>.inl z) (jf (P:=fun k (l:List Letter)=>∀ L∈l,L∈(h k).laid∨Off key L) hl fun _ _ _ z=>.inl z)
theorem TIh.first (q:TIh key h post rows) {c n:Int}{k:Key}{w:W}{r:Row} (hk:z7 k (h b).known=some r) (hs:r.st=.here) (hg:∀ p,je c r.marks=some p→p.1 < n):TIh key (upd h b ((h b).first c n k w r)) post rows:=by
 by_cases e:k=key
 ·subst e
  have hr:zb (h b).known k=r:=z3 hk
  obtain ⟨A,M,q⟩:=q
  have q1:=TI.first q b (r:=⟨c,n,k,w,(dn r.amt w).2⟩) (la:=(h b).laid ++ [.answer c n (dn r.amt w).2]) (by show (zb (h b).known k).st=_; rw [hr]; exact hs) (by show ziw (zb (h b).known k).amt (zb (h b).known k).marks _; rw [hr]; exact ⟨rfl,hg⟩)
  refine TIh.deed (A:=A) (M:=M) ?_
  show TI k (upd _ b (zb (qt k ⟨.here,r.turn,(dn r.amt w).1,cy (c,n,(dn r.amt w).2) r.marks⟩ (h b).known) k)) (upd (fun b=>zb (h b).written k) b (zb (h b).written k)) post (upd (fun b=>(h b).laid) b ((h b).laid ++ [.answer c n (dn r.amt w).2])) (qe k rows) (upd (fun b=>qe k (h b).fresh) b (qe k ((h b).fresh ++ [⟨c,n,k,w,(dn r.amt w).2⟩]))) A M
  rw [qj,if_pos rfl,gf,zjm ⟨c,n,k,w,(dn r.amt w).2⟩,qx (fun b=>zb (h b).written k)]
  dsimp only at q1
  rw [hr] at q1
  exact q1
 ·refine TIh.off q ?_ rfl (fun L z=>(List.mem_append.1 z).imp id fun z=>by rw [List.mem_singleton.1 z]; exact trivial) ?_
  ·show zb (qt k _ (h b).known) key=_
   rw [qj,if_neg fun q=>e q.symm]
  ·show qe key ((h b).fresh ++ [⟨c,n,k,w,(dn r.amt w).2⟩])=_
   rw [gf,zg7 (r:=⟨c,n,k,w,(dn r.amt w).2⟩) e,List.append_nil]
theorem TIh.called (q:TIh key h post rows) {c n:Int}{k:Key}{w:W}{r:Row} (hk:z7 k (h b).known=some r) (hs:r.st=.here):TIh key (upd h b ((h b).called c n k w r)) post rows:=by
 unfold HS.called
 split
 ·rename_i p hp
  split
  ·rw [qx]; exact q
  ·split
   ·exact TIh.off q rfl rfl (fun L z=>(List.mem_append.1 z).imp id fun z=>by rw [List.mem_singleton.1 z]; exact trivial) rfl
   ·rename_i h1 h2
    exact q.first hk hs fun p' hp'=>by
     have e:p=p':=Option.some.inj (hp.symm.trans hp')
     subst e
     lia
 ·rename_i hp
  exact q.first hk hs fun p' hp'=>nomatch hp.symm.trans hp'
theorem TIh.came (q:TIh key h post rows) (ki:KIh key h post) (nu:(h b).num=hn b) {L:Letter} (hL:L∈post) (ha:x6 b L):TIh key (upd h b ((h b).came L)) post rows:=by
 cases L with
 | answer=>exact ha.elim
 | call hh c n k w =>
  cases hk:z7 k (h b).known with
  | none=>rw [jq hk,qx]; exact q
  | some r =>
   rw [jk hk]
   by_cases hs:r.st=.here
   ·rw [if_pos hs]; exact q.called hk hs
   ·rw [if_neg hs,qx]; exact q
 | parcel hh k T a ms =>
  have ha:hh=hn b:=ha
  subst ha
  cases hk:z7 k (h b).known with
  | none=>rw [jg hk,qx]; exact q
  | some r =>
   rw [jb hk]
   by_cases ht:r.turn < T
   ·rw [if_pos ht]
    by_cases e:key=k
    ·subst e
     have hr:zb (h b).known key=r:=z3 hk
     obtain ⟨A,M,q⟩:=q
     refine TIh.deed (A:=A) (M:=M) ?_
     show TI key (upd _ b (zb (qt key ⟨.here,T,a,ms⟩ (h b).known) key)) (upd (fun b=>zb (h b).written key) b (zb (h b).written key)) post (upd (fun b=>(h b).laid) b ((h b).laid ++ [.taken (1 - (h b).num) key T])) (qe key rows) (upd (fun b=>qe key (h b).fresh) b (qe key (h b).fresh)) A M
     rw [qx (fun b=>zb (h b).written key),qj,if_pos rfl]
     exact TI.parcel q ki b hL (by show (zb (h b).known key).turn < T; rw [hr]; exact ht)
    ·exact TIh.off q (by show zb (qt k _ (h b).known) key=_; rw [qj,if_neg e]) rfl (fun L z=>(List.mem_append.1 z).imp id fun z=>by rw [List.mem_singleton.1 z]; exact fun q=>e q.symm) rfl
   ·rw [if_neg ht]
    obtain ⟨A,M,q⟩:=q
    refine TIh.deed (A:=A) (M:=M) ?_
    show TI key (upd (fun b=>zb (h b).known key) b (zb (h b).known key)) (upd (fun b=>zb (h b).written key) b (zb (h b).written key)) post (upd (fun b=>(h b).laid) b ((h b).laid ++ [.taken (1 - (h b).num) k T])) (qe key rows) (upd (fun b=>qe key (h b).fresh) b (qe key (h b).fresh)) A M
    rw [qx (fun b=>zb (h b).written key),qx (fun b=>zb (h b).known key),qx (fun b=>qe key (h b).fresh)]
    exact ⟨q.ch,q.dh,q.dw,q.kl,q.kf,q.s1,q.pp,jf (P:=fun i (l:List Letter)=>∀ T a ms,Letter.parcel (hn (!i)) key T a ms∈l→PC T a ms (zb (h i).known key)) (fun T' a' ms' z=>(List.mem_append.1 z).elim (q.lp b T' a' ms') fun z=>nomatch List.mem_singleton.1 z) fun i _=>q.lp i⟩
 | taken hh k T =>
  have ha:hh=hn b:=ha
  subst ha
  cases hk:z7 k (h b).known with
  | none=>rw [jo hk,qx]; exact q
  | some r =>
   rw [ji hk]
   by_cases hs:r.st=.owes∧T=r.turn + 1
   ·rw [if_pos hs]
    by_cases e:key=k
    ·subst e
     have hr:zb (h b).known key=r:=z3 hk
     obtain ⟨A,M,q⟩:=q
     have q1:=TI.taken q ki b (la:=(h b).laid) (by show Letter.taken (hn b) key ((zb (h b).known key).turn + 1)∈post; rw [hr,← hs.2]; exact hL)
     rw [hr] at q1
     refine TIh.deed (A:=A) (M:=M) ?_
     show TI key (upd _ b (zb (qt key ⟨.gone,r.turn,0,[]⟩ (h b).known) key)) (upd (fun b=>zb (h b).written key) b (zb (h b).written key)) post (upd (fun b=>(h b).laid) b (h b).laid) (qe key rows) (upd (fun b=>qe key (h b).fresh) b (qe key (h b).fresh)) A M
     rw [qx (fun b=>zb (h b).written key),qj,if_pos rfl]
     exact q1
    ·exact TIh.off q (by show zb (qt k _ (h b).known) key=_; rw [qj,if_neg e]) rfl (fun L z=>.inl z) rfl
   ·rw [if_neg hs,qx]; exact q
theorem TIh.move (q:TIh key h post rows) (ki:KIh key h post) (nu:(h b).num=hn b) {k:Key}{r:Row} (hk:z7 k (h b).known=some r) (hs:r.st=.here):TIh key (upd h b ((h b).move k r)) post rows:=by
 by_cases e:key=k
 ·subst e
  have hr:zb (h b).known key=r:=z3 hk
  obtain ⟨A,M,q⟩:=q
  have q1:=TI.move q ki b (by show (zb (h b).known key).st=_; rw [hr]; exact hs)
  dsimp only at q1
  rw [hr] at q1
  refine TIh.deed (A:=A) (M:=M) ?_
  show TI key (upd _ b (zb (qt key { r with st:=.owes } (h b).known) key)) (upd (fun b=>zb (h b).written key) b (zb (h b).written key)) post (upd (fun b=>(h b).laid) b ((h b).laid ++ [.parcel (1 - (h b).num) key (r.turn + 1) r.amt r.marks])) (qe key rows) (upd (fun b=>qe key (h b).fresh) b (qe key (h b).fresh)) A M
  rw [qx (fun b=>zb (h b).written key),nu,x9,qj,if_pos rfl]
  exact q1
 ·exact TIh.off q (by show zb (qt k _ (h b).known) key=_; rw [qj,if_neg e]) rfl (fun L z=>(List.mem_append.1 z).imp id fun z=>by rw [List.mem_singleton.1 z]; exact fun q=>e q.symm) rfl
theorem TIh.sleep (q:TIh key h post rows):TIh key (upd h b (h b).sleep) post rows:=by
 obtain ⟨A,M,q⟩:=q
 refine TIh.deed (A:=A) (M:=M) ?_
 show TI key (upd _ b (zb (h b).written key)) (upd (fun b=>zb (h b).written key) b (zb (h b).written key)) post (upd (fun b=>(h b).laid) b []) (qe key rows) (upd (fun b=>qe key (h b).fresh) b []) A M
 rw [qx (fun b=>zb (h b).written key)]
 exact TI.sleep q b
theorem TIh.write (q:TIh key h post rows) (ki:KIh key h post) (ha:∀ L∈(h b).laid,zc7 (!b) L):TIh key (upd h b (h b).write) (post ++ (h b).laid) (rows ++ (h b).fresh):=by
 obtain ⟨A,M,q⟩:=q
 obtain ⟨A',M',q1⟩:=TI.write q ki b (fun L hL b' T a ms e=>by have:=ha L hL; rw [e] at this; exact zc1 this)
 refine TIh.deed (A:=A') (M:=M') ?_
 show TI key (upd (fun b=>zb (h b).known key) b (zb (h b).known key)) (upd _ b (zb (h b).known key)) (post ++ (h b).laid) (upd (fun b=>(h b).laid) b []) (qe key (rows ++ (h b).fresh)) (upd (fun b=>qe key (h b).fresh) b []) A' M'
 rw [qx (fun b=>zb (h b).known key),gf]
 exact q1
theorem TIh.inPost (q:TIh key h post rows) {post':List Letter} (hp:∀ L∈post',L∈post∨Off key L):TIh key h post' rows:=by
 obtain ⟨A,M,q⟩:=q
 exact ⟨A,M,q.quiet hp fun _ _ z=>.inl z⟩
theorem TIh.nudges (nu:(h b).num=hn b):∀ (l:ja) (post:List Letter),TIh key h post rows→(∀ p∈l,z7 p.1 (h b).written=some p.2∧p.2.st=.owes)→TIh key h (post ++ l.map fun p=>qn (h b).num p.1 p.2) rows
 | [],post,q,_=>by rw [List.map_nil,List.append_nil]; exact q
 | p :: l,post,q,hl=>by
  have hp:=hl p (List.mem_cons_self ..)
  rw [List.map_cons,show post ++ (qn (h b).num p.1 p.2 :: l.map fun p=>qn (h b).num p.1 p.2)=(post ++ [qn (h b).num p.1 p.2]) ++ l.map fun p=>qn (h b).num p.1 p.2 from (List.append_assoc post [qn (h b).num p.1 p.2] _).symm]
  refine TIh.nudges nu l _ ?_ fun x hx=>hl x (List.mem_cons_of_mem _ hx)
  by_cases e:key=p.1
  ·have hr:zb (h b).written key=p.2:=by rw [e]; exact z3 hp.1
   obtain ⟨A,M,q⟩:=q
   have q1:=TI.nudge q b (by show (zb (h b).written key).st=_; rw [hr]; exact hp.2)
   rw [hr,← x9,← nu] at q1
   refine ⟨A,M,?_⟩
   show TI key _ _ (post ++ [.parcel (1 - (h b).num) p.1 (p.2.turn + 1) p.2.amt p.2.marks]) _ _ _ A M
   rw [← e]
   exact q1
  ·refine TIh.inPost q fun L hL=>(List.mem_append.1 hL).imp id fun z=>?_
   rw [List.mem_singleton.1 z]
   exact fun q=>e q.symm
theorem TIh.nudge (q:TIh key h post rows) (nu:(h b).num=hn b) (nd:((h b).written.map (·.1)).Nodup):TIh key h (post ++ (h b).nudge) rows :=
 TIh.nudges nu _ post q fun p hp=>by
  obtain ⟨h1,h2⟩:=List.mem_filter.1 hp
  exact ⟨j9 nd h1,of_decide_eq_true h2⟩
end
end Mine
end
section
namespace Mine
noncomputable abbrev Call:=Int×Int×Key×W
noncomputable def yo:Option Call→V
 | none=>.none
 | some g=>.tup [.int g.1,.int g.2.1,.str g.2.2.1,wv g.2.2.2]
noncomputable def LRow.call (r:LRow):Call:=(r.c,r.n,r.k,r.w)
inductive WStep (ks:List Key) (nc:Nat) (W:WS):Option Call→WS→Prop
 | same:WStep ks nc W none W
 | post (b:Bool) (i:Nat) (p:Int×Key×Mine.W) (hi:i < nc) (ho:(W.c i).op=some p):WStep ks nc W none { W with post:=W.post ++ [.call (hn b) i p.1 p.2.1 p.2.2] }
 | begin (i:Nat) (k:Key) (w:Mine.W) (hi:i < nc) (ho:(W.c i).op=none) (hk:k∈ks):WStep ks nc W (some ((i:Int),(W.c i).begun + 1,k,w)) { W with c:=vw W.c i ⟨(W.c i).begun + 1,some ((W.c i).begun + 1,k,w),(W.c i).closed⟩ }
 | came (b:Bool) (L:Letter) (hL:L∈W.post) (ha:x6 b L):WStep ks nc W none { W with h:=upd W.h b ((W.h b).came L) }
 | answer (i:Nat) (n t:Int) (hi:i < nc) (hL:Letter.answer i n t∈W.post):WStep ks nc W none { W with c:=vw W.c i ((W.c i).came n t) }
 | erase (p:Nat):WStep ks nc W none { W with post:=W.post.eraseIdx p }
 | move (b:Bool) (k:Key) (r:Row) (hr:z7 k (W.h b).known=some r) (hs:r.st=.here) (hk:k∈ks):WStep ks nc W none { W with h:=upd W.h b ((W.h b).move k r) }
 | sleep (b:Bool):WStep ks nc W none { W with h:=upd W.h b (W.h b).sleep }
 | nudge (b:Bool):WStep ks nc W none { W with post:=W.post ++ (W.h b).nudge }
 | write (b:Bool):WStep ks nc W none { W with h:=upd W.h b (W.h b).write,post:=W.post ++ (W.h b).laid,rows:=W.rows ++ (W.h b).fresh }
section
variable {ks:List Key}{nc m:Nat}{W W':WS}{o:Option Call}{G:List Call}
theorem WI.mono (a:WI ks nc m W):WI ks nc (m + 1) W:=a.setPost a.ki a.po (Nat.le_add_right _ _)
theorem WI.step (a:WI ks nc m W) (nd:ks.Nodup) (k6:ks.length≤6) (h6:nc≤6) (s:WStep ks nc W o W'):WI ks nc (m + 1) W':=by
 cases s with
 | same=>exact a.mono
 | post b i p hi ho=>exact a.post1 b hi p.1 ((a.co i hi).1 p ho) p.2.2
 | begin i k w hi ho hk=>exact a.caller i _ (fun p hp=>by cases hp; exact hk) (Nat.le_succ_of_le (a.co i hi).2)
 | came b L hL ha=>exact a.came h6 hL ha
 | answer i n t hi hL=>exact a.answer hi n t
 | erase p=>exact a.erase p
 | move b k r hr hs hk=>exact a.move hr hk
 | sleep b=>exact a.sleep b
 | nudge b=>exact a.nudge b nd k6
 | write b=>exact a.write b
set_option genCtorIdx false in
structure WJ (ks:List Key) (nc m:Nat) (W:WS) (G:List Call):Prop where
 wi:WI ks nc m W
 ti:∀ key∈ks,TIh key W.h W.post W.rows
 pb:∀ h c n k w,Letter.call h c n k w∈W.post→((c,n,k,w):Call)∈G
 lb:∀ b h c n k w,Letter.call h c n k w∈(W.h b).laid→((c,n,k,w):Call)∈G
 ob:∀ i,i < nc→∀ p,(W.c i).op=some p→(((i:Int),p):Call)∈G
 fb:∀ b,∀ r∈(W.h b).fresh,r.call∈G
 rb:∀ r∈W.rows,r.call∈G
 gk:∀ g∈G,g.2.2.1∈ks∧∃ i:Nat,i < nc∧g.1=i∧g.2.1≤(W.c i).begun
 gu:∀ g∈G,∀ g'∈G,g.1=g'.1→g.2.1=g'.2.1→g=g'
set_option genCtorIdx false in
structure Mild (G:List Call) (x y:HS):Prop where
 la:∀ h c n k w,Letter.call h c n k w∈y.laid→Letter.call h c n k w∈x.laid
 fr:∀ r∈y.fresh,r∈x.fresh∨r.call∈G
theorem Mild.refl (x:HS):Mild G x x:=⟨fun _ _ _ _ _ q=>q,fun _ q=>.inl q⟩
theorem Mild.called {x:HS}{c n:Int}{k:Key}{w:Mine.W}{r:Row} (hg:((c,n,k,w):Call)∈G):Mild G x (x.called c n k w r):=by
 have la:∀ t,∀ h' c' n' k' w',Letter.call h' c' n' k' w'∈x.laid ++ [.answer c n t]→Letter.call h' c' n' k' w'∈x.laid:=fun t _ _ _ _ _ q=>(List.mem_append.1 q).elim id fun q=>nomatch List.mem_singleton.1 q
 have fi:Mild G x (x.first c n k w r):=⟨la _,fun r q=>(List.mem_append.1 q).imp id fun q=>by rw [List.mem_singleton.1 q]; exact hg⟩
 unfold HS.called
 split
 ·split
  ·exact .refl _
  ·split
   ·exact ⟨la _,fun _ q=>.inl q⟩
   ·exact fi
 ·exact fi
theorem Mild.came {x:HS}{L:Letter} (hg:∀ h c n k w,L=.call h c n k w→((c,n,k,w):Call)∈G):Mild G x (x.came L):=by
 cases L with
 | answer=>exact .refl _
 | call hh c n k w =>
  cases hk:z7 k x.known with
  | none=>rw [jq hk]; exact .refl _
  | some r =>
   rw [jk hk]
   split
   ·exact .called (hg _ _ _ _ _ rfl)
   ·exact .refl _
 | parcel hh k T a ms =>
  cases hk:z7 k x.known with
  | none=>rw [jg hk]; exact .refl _
  | some r=>rw [jb hk]; exact ⟨fun _ _ _ _ _ q=>(List.mem_append.1 q).elim id fun q=>(nomatch List.mem_singleton.1 q),fun _ q=>.inl q⟩
 | taken hh k T =>
  cases hk:z7 k x.known with
  | none=>rw [jo hk]; exact .refl _
  | some r =>
   rw [ji hk]
   split
   ·exact ⟨fun _ _ _ _ _ q=>q,fun _ q=>.inl q⟩
   ·exact .refl _
theorem WJ.house (a:WJ ks nc m W G) (b:Bool) {y:HS} (w:WI ks nc (m + 1) { W with h:=upd W.h b y }) (ti:∀ key∈ks,TIh key (upd W.h b y) W.post W.rows) (q:Mild G (W.h b) y):WJ ks nc (m + 1) { W with h:=upd W.h b y } G :=
 ⟨w,ti,a.pb,jf (P:=fun _ (h:HS)=>∀ hh c n k w,Letter.call hh c n k w∈h.laid→((c,n,k,w):Call)∈G) (fun h c n k w z=>a.lb b h c n k w (q.la h c n k w z)) fun i _=>a.lb i,a.ob,
  jf (P:=fun _ (h:HS)=>∀ r∈h.fresh,r.call∈G) (fun r z=>(q.fr r z).elim (a.fb b r) id) fun i _=>a.fb i,a.rb,a.gk,a.gu⟩
theorem WJ.setPost (a:WJ ks nc m W G) {post':List Letter} (w:WI ks nc (m + 1) { W with post:=post' }) (ti:∀ key∈ks,TIh key W.h post' W.rows) (pb:∀ h c n k w,Letter.call h c n k w∈post'→((c,n,k,w):Call)∈G):WJ ks nc (m + 1) { W with post:=post' } G :=
 ⟨w,ti,pb,a.lb,a.ob,a.fb,a.rb,a.gk,a.gu⟩
theorem cw (c:CS) (n t:Int):(c.came n t).begun=c.begun:=by
 unfold CS.came
 split
 ·split <;> rfl
 ·rfl
theorem zd2 {c:CS}{n t:Int}{p:Int×Key×Mine.W} (h:(c.came n t).op=some p):c.op=some p:=by
 unfold CS.came at h
 split at h
 ·split at h
  ·cases h
  ·exact h
 ·exact h
theorem WJ.step (a:WJ ks nc m W G) (nd:ks.Nodup) (k6:ks.length≤6) (h6:nc≤6) (s:WStep ks nc W o W'):WJ ks nc (m + 1) W' (G ++ o.toList)∧∃ more,W'.rows=W.rows ++ more:=by
 have w:=a.wi.step nd k6 h6 s
 have non:∀ {W':WS},WJ ks nc (m + 1) W' G→WJ ks nc (m + 1) W' (G ++ (none:Option Call).toList):=fun q=>by rw [show G ++ (none:Option Call).toList=G from List.append_nil G]; exact q
 have no:∃ more,W.rows=W.rows ++ more:=⟨[],(List.append_nil _).symm⟩
 cases s with
 | same=>exact ⟨non ⟨w,a.ti,a.pb,a.lb,a.ob,a.fb,a.rb,a.gk,a.gu⟩,no⟩
 | post b i p hi ho =>
  refine ⟨non (a.setPost w (fun key hk=>(a.ti key hk).inPost fun L q=>(List.mem_append.1 q).imp id fun z=>by rw [List.mem_singleton.1 z]; exact trivial) fun h c n k w q=>?_),no⟩
  rcases List.mem_append.1 q with q | q
  ·exact a.pb h c n k w q
  ·cases List.mem_singleton.1 q; exact a.ob i hi p ho
 | begin i k w' hi ho hk =>
  refine ⟨⟨w,a.ti,fun h c n k w q=>List.mem_append_left _ (a.pb h c n k w q),fun b h c n k w q=>List.mem_append_left _ (a.lb b h c n k w q),fun j hj p hp=>?_,fun b r q=>List.mem_append_left _ (a.fb b r q),fun r q=>List.mem_append_left _ (a.rb r q),fun g hg=>?_,fun g hg g' hg' e1 e2=>?_⟩,no⟩
  ·have hp:(if j=i then (⟨(W.c i).begun + 1,some ((W.c i).begun + 1,k,w'),(W.c i).closed⟩:CS) else W.c j).op=some p:=hp
   split at hp
   ·rename_i e; cases hp; rw [e]; exact List.mem_append_right _ (List.mem_singleton.2 rfl)
   ·exact List.mem_append_left _ (a.ob j hj p hp)
  ·rcases List.mem_append.1 hg with hg | hg
   ·obtain ⟨g1,j,g2,g3,g4⟩:=a.gk g hg
    refine ⟨g1,j,g2,g3,?_⟩
    show g.2.1≤(if j=i then (⟨(W.c i).begun + 1,some ((W.c i).begun + 1,k,w'),(W.c i).closed⟩:CS) else W.c j).begun
    split
    ·rename_i e; rw [e] at g4; show _≤(W.c i).begun + 1; lia
    ·exact g4
   ·cases List.mem_singleton.1 hg
    refine ⟨hk,i,hi,rfl,?_⟩
    show (W.c i).begun + 1≤(if i=i then (⟨(W.c i).begun + 1,some ((W.c i).begun + 1,k,w'),(W.c i).closed⟩:CS) else W.c i).begun
    rw [if_pos rfl]; exact Int.le_refl _
  ·have old:∀ g∈G,g.1=(i:Int)→g.2.1≠(W.c i).begun + 1:=fun g hg e1 e2=>by
    obtain ⟨-,j,-,g3,g4⟩:=a.gk g hg
    have:j=i:=by lia
    subst this
    lia
   rcases List.mem_append.1 hg with hg | hg
   ·rcases List.mem_append.1 hg' with hg' | hg'
    ·exact a.gu g hg g' hg' e1 e2
    ·cases List.mem_singleton.1 hg'; exact absurd e2 (old g hg e1)
   ·rcases List.mem_append.1 hg' with hg' | hg'
    ·cases List.mem_singleton.1 hg; exact absurd e2.symm (old g' hg' e1.symm)
    ·rw [List.mem_singleton.1 hg,List.mem_singleton.1 hg']
 | came b L hL ha=>exact ⟨non (a.house b w (fun key hk=>(a.ti key hk).came (a.wi.ki key hk) (a.wi.nu b) hL ha) (.came fun h c n k w e=>a.pb h c n k w (e ▸ hL))),no⟩
 | answer i n t hi hL =>
  refine ⟨non ⟨w,a.ti,a.pb,a.lb,fun j hj p hp=>?_,a.fb,a.rb,fun g hg=>?_,a.gu⟩,no⟩
  ·have hp:(if j=i then (W.c i).came n t else W.c j).op=some p:=hp
   split at hp
   ·rename_i e; rw [e]; exact a.ob i hi p (zd2 hp)
   ·exact a.ob j hj p hp
  ·obtain ⟨g1,j,g2,g3,g4⟩:=a.gk g hg
   refine ⟨g1,j,g2,g3,?_⟩
   show g.2.1≤(if j=i then (W.c i).came n t else W.c j).begun
   split
   ·rename_i e; rw [cw,← e]; exact g4
   ·exact g4
 | erase p=>exact ⟨non (a.setPost w (fun key hk=>(a.ti key hk).inPost fun L q=>.inl (List.mem_of_mem_eraseIdx q)) fun h c n k w q=>a.pb h c n k w (List.mem_of_mem_eraseIdx q)),no⟩
 | move b k r hr hs hk=>exact ⟨non (a.house b w (fun key hkey=>(a.ti key hkey).move (a.wi.ki key hkey) (a.wi.nu b) hr hs) ⟨fun _ _ _ _ _ q=>(List.mem_append.1 q).elim id fun q=>(nomatch List.mem_singleton.1 q),fun _ q=>.inl q⟩),no⟩
 | sleep b=>exact ⟨non (a.house b w (fun key hkey=>(a.ti key hkey).sleep) ⟨fun _ _ _ _ _ q=>(List.not_mem_nil q).elim,fun _ q=>(List.not_mem_nil q).elim⟩),no⟩
 | nudge b =>
  refine ⟨non (a.setPost w (fun key hk=>(a.ti key hk).nudge (a.wi.nu b) (by rw [(a.wi.hi b).hw]; exact nd)) fun h c n k w q=>?_),no⟩
  rcases List.mem_append.1 q with q | q
  ·exact a.pb h c n k w q
  ·obtain ⟨p,-,e⟩:=List.mem_map.1 q; exact nomatch e
 | write b =>
  refine ⟨non ⟨w,fun key hk=>(a.ti key hk).write (a.wi.ki key hk) fun L hL=>(a.wi.la b L hL).2,fun h c n k w q=>(List.mem_append.1 q).elim (a.pb h c n k w) (a.lb b h c n k w),jf (P:=fun _ (h:HS)=>∀ hh c n k w,Letter.call hh c n k w∈h.laid→((c,n,k,w):Call)∈G) (fun h c n k w z=>(List.not_mem_nil z).elim) fun i _=>a.lb i,a.ob,
   jf (P:=fun _ (h:HS)=>∀ r∈h.fresh,r.call∈G) (fun r z=>(List.not_mem_nil z).elim) fun i _=>a.fb i,fun r q=>(List.mem_append.1 q).elim (a.rb r) (a.fb b r),a.gk,a.gu⟩,_,rfl⟩
end
end Mine
end
section
namespace Mine
noncomputable def zo7:List S:=[.assign 7 (.bin .mod (.bin .fdiv (.loc 4) (.int 2)) (.loc 2)),.ite (.isC true (.meth (.loc 0) 11 [.loc 7]) .none) [.expr (.meth (.loc 0) 18 [.loc 7,.loc 5]),.ret (some .none)] [],.assign 8 (.sub (.loc 1) (.bin .mod (.bin .fdiv (.loc 4) (.int 3)) (.prim .len [.loc 1]))),.assign 9 (.call 102 [.bin .fdiv (.bin .mul (.bin .add (.loc 3) (.int 5)) (.int 48271)) (.int 11)]),.ret (some (.tup [.loc 7,.meth (.loc 0) 17 [.loc 7,.loc 5,.loc 8,.loc 9],.loc 8,.loc 9]))]
noncomputable def zo4:List S:=[.ite (.cmp (.bin .mod (.loc 3) (.int 16)) .eq (.int 14)) [.expr (.meth (.loc 0) 7 [.loc 5])] [.ite (.cmp (.bin .mod (.loc 3) (.int 16)) .eq (.int 15)) [.expr (.meth (.loc 0) 8 [.loc 5])] [.ite (.cmp (.bin .mod (.loc 3) (.int 16)) .gt (.int 10)) [.expr (.meth (.loc 0) 6 [.loc 5])] []]]]
noncomputable def zox:List S:=[.ite (.and [.cmp (.bin .mod (.loc 3) (.int 16)) .eq (.int 10),.isC true (.meth (.loc 0) 24 [.sub (.loc 1) (.bin .mod (.loc 4) (.prim .len [.loc 1]))]) .none]) [.expr (.meth (.loc 0) 5 [.sub (.loc 1) (.bin .mod (.loc 4) (.prim .len [.loc 1]))])] zo4]
noncomputable def zoz:S:=.ite (.and [.cmp (.bin .mod (.loc 3) (.int 16)) .lt (.int 8),.cmp (.loc 6) .gt (.int 0)]) [.expr (.meth (.loc 0) 21 [.sub (.lst [.int 0,.bin .sub (.loc 6) (.int 1),.bin .mod (.loc 4) (.loc 6),.bin .mod (.loc 4) (.loc 6)]) (.bin .sub (.bin .mod (.loc 3) (.int 16)) (.int 4))])] [.ite (.and [.cmp (.bin .mod (.loc 3) (.int 16)) .eq (.int 8),.cmp (.loc 6) .gt (.int 0)]) [.expr (.meth (.loc 0) 22 [.bin .mod (.loc 4) (.loc 6)])] [.ite (.and [.cmp (.bin .mod (.loc 3) (.int 16)) .eq (.int 9),.cmp (.loc 6) .gt (.int 0)]) [.expr (.meth (.loc 0) 23 [.bin .mod (.loc 4) (.loc 6)])] zox]]
noncomputable def zql:Fn:=⟨4,["_law_world","_law_keys_here","_law_callers","_law_cell","_law_more","_law_house","_law_many","_law_caller","_law_key","_law_wish_here"],.assign 4 (.bin .fdiv (.loc 3) (.int 16)) :: .assign 5 (.bin .mod (.loc 4) (.int 2)) :: .assign 6 (.prim .len [.meth (.loc 0) 19 []]) :: .ite (.cmp (.bin .mod (.loc 3) (.int 16)) .lt (.int 4)) zo7 [] :: zoz :: [.ret (some .none)]⟩
set_option genCtorIdx false in
structure DeedP (P:Prog):Prop where
 beg:P.fns 11=some f_Caller_begin
 cca:P.fns 13=some f_Caller_came
 nwi:∃ xc,P.fns 1=some (f_need_wish xc)
 cal:∃ xc,P.fns 45=some (f_World_call xc)
 aga:∃ xc,P.fns 46=some (f_World_again xc)
 lts:P.fns 47=some f_World_letters
 han:P.fns 49=some f_World_hand
 twi:P.fns 50=some f_World_twice
 los:P.fns 51=some f_World_lose
 hom:P.fns 52=some f_World_home
 mov:∃ xc,P.fns 53=some (f_World_move xc)
 hmo:∃ xc,P.fns 26=some (f_House_move xc)
 wri:P.fns 55=some f_World_write
 hwr:P.fns 27=some f_House_write
 sle:P.fns 56=some f_World_sleep
 hsl:P.fns 28=some f_House_sleep
 nud:P.fns 57=some f_World_nudge
 hnu:P.fns 29=some f_House_nudge
 ask:P.fns 59=some f_World_asking
 wis:P.fns 102=some f_wish
 w5:P.meths 0 5=some 53
 w6:P.meths 0 6=some 55
 w7:P.meths 0 7=some 56
 w8:P.meths 0 8=some 57
 w11:P.meths 0 11=some 59
 w17:P.meths 0 17=some 45
 w18:P.meths 0 18=some 46
 w19:P.meths 0 19=some 47
 w21:P.meths 0 21=some 49
 w22:P.meths 0 22=some 50
 w23:P.meths 0 23=some 51
 w24:P.meths 0 24=some 52
 h5:P.meths 1 5=some 26
 h6:P.meths 1 6=some 27
 h7:P.meths 1 7=some 28
 h8:P.meths 1 8=some 29
 c2:P.meths 2 2=some 13
section
variable {ks:List Key}{nc m:Nat}{W:WS}{x:Bool→HIx}{u u1 t:MS}{o:Option Call}
noncomputable def DD (ks:List Key) (nc:Nat) (W:WS) (u:MS) (o:Option Call) (t:MS):Prop:=∃ W1 W2 x,WStep ks nc W o W1∧WStep ks nc W1 none W2∧WAt t ks W2 x∧Fr NWp u t
theorem DD.pre (f:Fr NWp u u1) (d:DD ks nc W u1 o t):DD ks nc W u o t:=by
 obtain ⟨W1,W2,x,h1,h2,h3,h4⟩:=d
 exact ⟨W1,W2,x,h1,h2,h3,f.trans h4⟩
theorem DD.one {W1:WS} (h1:WStep ks nc W o W1) (A:WAt t ks W1 x) (f:Fr NWp u t):DD ks nc W u o t:=⟨W1,W1,x,h1,.same,A,f⟩
theorem pi (a:WI ks nc m W) (h6:nc≤6) {L:Letter} (hL:L∈W.post):(∃ b,x6 b L∧LOk (W.h b) L)∨∃ (i:Nat) (n t:Int),i < nc∧L=.answer i n t:=by
 have h:=a.po L hL
 cases L with
 | answer c n t=>obtain ⟨i,hi,rfl⟩:=h; exact .inr ⟨i,n,t,hi,rfl⟩
 | call hh c n k w =>
  obtain ⟨⟨b,rfl⟩,⟨i,hi,rfl⟩,hk⟩:=h
  obtain ⟨r,hr,-⟩:=(a.hi b).get hk
  exact .inl ⟨b,rfl,by lia,by lia,r,hr⟩
 | parcel hh k T am ms =>
  obtain ⟨⟨b,rfl⟩,hk,-⟩:=h
  obtain ⟨r,hr,-⟩:=(a.hi b).get hk
  exact .inl ⟨b,rfl,r,hr⟩
 | taken hh k T =>
  obtain ⟨⟨b,rfl⟩,hk⟩:=h
  obtain ⟨r,hr,-⟩:=(a.hi b).get hk
  exact .inl ⟨b,rfl,r,hr⟩
theorem hz (a:WI ks nc m W) (K:KeysFine ks) (hm:m < 1000000) (b:Bool):HZ (W.h b):=(a.hi b).z (by lia) K.six
theorem zpp {k:Nat} (h:11≤k) (o:MObj):Fr NW u (u.new k o):=(Fr.refl _ _).new _ _
variable {P:Prog} (H:WorldP P) (HP:HouseP P) (D:DeedP P)
include H D
theorem zmi (n:Nat) (A:WAt u ks W x) {p:Nat} (hp:p < W.post.length):OkR (run P (n + 5) 51 [.ref (1,0),.int p] u) fun v t=>v=.none∧DD ks nc W u none t:=by
 obtain ⟨t,e,q,f⟩:=zjb H D.los (n + 2) A hp
 exact cz e ⟨rfl,.one (.erase p) q f⟩
include HP
theorem zl4 (n:Nat) (A:WAt u ks W x) (a:WI ks nc m W) (K:KeysFine ks) (h6:nc≤6) (hm:m < 1000000) {p:Nat} (hp:p < W.post.length) :
  OkR (run P (n + 5) 49 [.ref (1,0),.int p] u) fun v t=>v=.none∧DD ks nc W u none t:=by
 have hL:W.post[p]∈W.post:=List.getElem_mem hp
 rcases pi a h6 hL with ⟨b,h1,h2⟩ | ⟨i,num,told,hi,e⟩
 ·refine qr (u3 H D.han n A hp (W':={ W with post:=W.post.eraseIdx p,h:=upd W.h b ((W.h b).came W.post[p]) }) fun t At=>uu H HP n At h1 (hz a K hm b) (a.hi b).kk h2) ?_
  rintro v t ⟨rfl,q,f⟩
  exact ⟨rfl,_,_,_,.came b _ hL h1,.erase p,q,f⟩
 ·refine qr (u3 H D.han n A hp (W':={ W with post:=W.post.eraseIdx p,c:=vw W.c i ((W.c i).came num told) }) fun t At=>by
   rw [e]; exact ua H D.cca D.c2 n At (by rw [← a.nc_] at hi; exact hi) num told (by have:=(a.co i hi).2; show (W.c i).closed.length < _; lia)) ?_
  rintro v t ⟨rfl,q,f⟩
  exact ⟨rfl,_,_,_,.answer i num told hi (e ▸ hL),.erase p,q,f⟩
theorem zlg (n:Nat) (A:WAt u ks W x) (a:WI ks nc m W) (K:KeysFine ks) (h6:nc≤6) (hm:m < 1000000) {p:Nat} (hp:p < W.post.length) :
  OkR (run P (n + 5) 50 [.ref (1,0),.int p] u) fun v t=>v=.none∧DD ks nc W u none t:=by
 have hL:W.post[p]∈W.post:=List.getElem_mem hp
 rcases pi a h6 hL with ⟨b,h1,h2⟩ | ⟨i,num,told,hi,e⟩
 ·refine qr (dq H D.twi n A hp (uu H HP n A h1 (hz a K hm b) (a.hi b).kk h2)) ?_
  rintro v t ⟨rfl,q,f⟩
  exact ⟨rfl,.one (.came b _ hL h1) q f⟩
 ·refine qr (dq H D.twi n A hp (W':={ W with c:=vw W.c i ((W.c i).came num told) }) (by
   rw [e]; exact ua H D.cca D.c2 n A (by rw [← a.nc_] at hi; exact hi) num told (by have:=(a.co i hi).2; lia))) ?_
  rintro v t ⟨rfl,q,f⟩
  exact ⟨rfl,.one (.answer i num told hi (e ▸ hL)) q f⟩
theorem zhu (n:Nat) (A:WAt u ks W x) (a:WI ks nc m W) (K:KeysFine ks) (hm:m < 1000000) (b:Bool):OkR (run P (n + 5) 56 [.ref (1,0),.int (hn b)] u) fun v t=>v=.none∧DD ks nc W u none t:=by
 refine qr (zdk H HP D.hsl D.h7 D.sle (n + 2) A b (hz a K hm b)) ?_
 rintro v t ⟨rfl,⟨x',q⟩,f⟩
 exact ⟨rfl,.one (.sleep b) q f⟩
theorem zik (n:Nat) (A:WAt u ks W x) (a:WI ks nc m W) (K:KeysFine ks) (hm:m < 1000000) (b:Bool):OkR (run P (n + 5) 57 [.ref (1,0),.int (hn b)] u) fun v t=>v=.none∧DD ks nc W u none t:=by
 obtain ⟨t,e,q,f⟩:=d7 H HP D.hnu D.h8 D.nud (n + 2) A b (hz a K hm b) (by rw [(a.hi b).hw]; exact K.nd) (by have:=bf (a.hi b); have:=K.six; have:=a.pl; lia)
 exact cz e ⟨rfl,.one (.nudge b) q f⟩
omit H D HP in
theorem zbv (a:WI ks nc m W) (b:Bool):W.post.length + (W.h b).laid.length≤8 * m∧W.rows.length + (W.h b).fresh.length≤m:=by
 have h1:=a.pl
 have h2:=a.rl
 cases b <;> constructor <;> lia
theorem zj6 (n:Nat) (A:WAt u ks W x) (a:WI ks nc m W) (K:KeysFine ks) (hm:m < 1000000) (b:Bool):OkR (run P (n + 5) 55 [.ref (1,0),.int (hn b)] u) fun v t=>v=.none∧DD ks nc W u none t:=by
 have hl:=zbv a b
 refine qr (f5 H HP D.hwr D.h6 D.wri (n + 2) A b (hz a K hm b) (by lia) (by lia)) ?_
 rintro v t ⟨rfl,⟨x',q⟩,f⟩
 exact ⟨rfl,.one (.write b) q f⟩
theorem zop (n:Nat) (A:WAt u ks W x) (a:WI ks nc m W) (K:KeysFine ks) (hm:m < 1000000) {key:Key} (hk:key∈ks) {b:Bool}{r:Row} (hv:v4 W key=.int (hn b)) (hr:z7 key (W.h b).known=some r) (hs:r.st=.here):OkR (run P (n + 5) 53 [.ref (1,0),.str key] u) fun v t=>v=.none∧DD ks nc W u none t:=by
 obtain ⟨xc,e1⟩:=D.mov
 obtain ⟨yc,e2⟩:=D.hmo
 refine qr (zf9 H HP e2 D.hom D.w24 D.h5 e1 (n + 1) A hk b hv (hz a K hm b) hr hs) ?_
 rintro v t ⟨rfl,q,f⟩
 exact ⟨rfl,.one (.move b key r hr hs hk) q f⟩
omit H D HP in
theorem zmt (a:WI ks nc m W) {key:Key} (hk:key∈ks):(v4 W key=.none∧(W.h false).has key=false∧(W.h true).has key=false)∨∃ b r,v4 W key=.int (hn b)∧z7 key (W.h b).known=some r∧r.st=.here:=by
 have row:∀ b,(W.h b).has key=true→∃ r,z7 key (W.h b).known=some r∧r.st=.here:=fun b h=>by
  obtain ⟨r,hr,-⟩:=(a.hi b).get hk
  rw [HS.has,hr] at h
  exact ⟨r,hr,of_decide_eq_true h⟩
 cases c0:(W.h false).has key with
 | true =>
  obtain ⟨r,h1,h2⟩:=row false c0
  exact .inr ⟨false,r,by rw [v4,if_pos c0,a.nu false],h1,h2⟩
 | false =>
  cases c1:(W.h true).has key with
  | true =>
   obtain ⟨r,h1,h2⟩:=row true c1
   exact .inr ⟨true,r,by rw [v4,c0,c1]; show V.int (W.h true).num=_; rw [a.nu true],h1,h2⟩
  | false=>exact .inl ⟨by rw [v4,c0,c1]; rfl,rfl,rfl⟩
omit H D HP in
theorem ze7 (more:Int):more.fmod 2=hn (decide (more.fmod 2=1)):=by
 obtain ⟨h1,h2⟩:=q8 more 2 (by decide)
 by_cases h:more.fmod 2=1
 ·rw [decide_eq_true h]; exact h
 ·rw [decide_eq_false h]; show _=(0:Int); lia
noncomputable abbrev bn (ks:List Key) (nc:Nat) (cell more:Int) (b:Bool) (N:Nat) (a c d:Option V):Loc:=[some (.ref (1,0)),some (.lst (ks.map .str)),some (.int nc),some (.int cell),some (.int more),some (.int (hn b)),some (.int N),a,c,d]
omit H D HP in
theorem zlq (n:Nat) (K:KeysFine ks) {cell more:Int}{b:Bool}{N:Nat}{l1 l2 l3:Option V} (e:E) (k:Int) (he:∀ u,ev P (run P n) e (bn ks nc cell more b N l1 l2 l3) u=.ok (.int k) u):∃ key,key∈ks∧∀ u,ev P (run P n) (.sub (.loc 1) (.bin .mod e (.prim .len [.loc 1]))) (bn ks nc cell more b N l1 l2 l3) u=.ok (.str key) u:=by
 have hl:(ks.map V.str).length=ks.length:=List.length_map ..
 obtain ⟨p,hp,ep⟩:=gw k (N:=(ks.map V.str).length) (by rw [hl]; exact K.pos)
 have hp':p < ks.length:=by rw [hl] at hp; exact hp
 refine ⟨ks[p],List.getElem_mem _,fun u=>?_⟩
 have e1:=eu (s:=u) (a:=.lst (ks.map .str)) (k:=true) rfl p hp
 rw [show (ks.map V.str)[p]=V.str ks[p] from List.getElem_map ..,← ep] at e1
 exact kh (x:=.lst (ks.map .str)) (y:=.int (k.fmod (ks.map V.str).length)) rfl (vp (x:=.int k) (y:=.int (ks.map V.str).length) (he u) rfl (if_neg (by have:=K.pos; rw [hl]; omega))) e1
omit H D HP in
theorem zsc (k:Int) {N p:Nat} (h:0 < N) (e:k.fmod (N:Int)=p) (s:MS):wa .mod (.int k) (.int (N:Nat)) s=.ok (.int p) s:=by
 have h0:¬ ((N:Int)=0):=by lia
 show (if (N:Int)=0 then Res.stuck else Res.ok (V.int (k.fmod (N:Int))) s)=_
 rw [if_neg h0,e]
omit H D HP in
theorem zcx (n:Nat) {cell more:Int}{b:Bool}{N:Nat}{l1 l2 l3:Option V} (h:0 < N):∃ p:Nat,p < N∧∀ u,ev P (run P n) (.bin .mod (.loc 4) (.loc 6)) (bn ks nc cell more b N l1 l2 l3) u=.ok (.int p) u:=by
 obtain ⟨p,hp,ep⟩:=gw more h
 exact ⟨p,hp,fun u=>vp (x:=.int more) (y:=.int N) rfl rfl (zsc more h ep u)⟩
omit H D HP in
theorem b4 {C:Calls}{n:Nat}{c:E}{b1 b2:List S}{t:Bool}{l:Loc}{s:MS}{Q:Fl×Loc→MS→Prop} (hc:ev P C c l s=.ok (.bool t) s) (k1:t=true→OkR (exs P C n b1 l s) Q) (k2:OkR (exs P C n b2 l s) Q):OkR (exs P C n [.ite c b1 b2] l s) Q:=by
 have h:OkR (exs P C n (if t then b1 else b2) l s) Q:=by
  cases t with
  | true=>exact k1 rfl
  | false=>exact k2
 refine zt hc (qr h fun p s q=>?_)
 obtain ⟨f,l⟩:=p
 cases f <;> exact q
omit H D HP in
theorem i4 {C:Calls}{c d:Bool}{a b:E}{l:Loc}{s:MS} (h1:ev P C a l s=.ok (.bool c) s) (h2:ev P C b l s=.ok (.bool d) s):ev P C (.and [a,b]) l s=.ok (.bool (c && d)) s:=by
 cases c with
 | true=>exact yy h1 (y0 h2)
 | false=>exact py h1
omit H D HP in
theorem wh {C:Calls}{n:Nat}{e:E}{l:Loc}{s:MS}{Q:Fl×Loc→MS→Prop}{R:MS→Prop} (h:OkR (ev P C e l s) fun v t=>v=.none∧R t) (k:∀ t,R t→Q (.next,l) t):OkR (exs P C n [.expr e] l s) Q :=
 j3 h fun _ t q=>zz (k t q.2)
omit H D HP in
theorem zmd {C:Calls}{n:Nat}{st:S}{r:List S}{l:Loc}{s:MS}{Q:Fl×Loc→MS→Prop} (k:OkR (exs P C n [st] l s) (ix P C n r Q)):OkR (exs P C n (st :: r) l s) Q:=by
 rw [gm] at k ⊢
 refine qr k fun p s q=>?_
 obtain ⟨f,l⟩:=p
 cases f <;> exact q
section
variable {cell more:Int}{b:Bool}{Q:Fl×Loc→MS→Prop}
theorem zcq (n:Nat) (A:WAt u ks W x) (a:WI ks nc m W) (K:KeysFine ks) (hm:m < 1000000) (k:∀ t,DD ks nc W u none t→Q (.next,bn ks nc cell more b W.post.length none none none) t) :
  OkR (exs P (run P (n + 5)) (n + 5) zo4 (bn ks nc cell more b W.post.length none none none) u) Q :=
 b4 (t:=decide (cell.fmod 16=14)) rfl (fun _=>wh (jn (x:=.ref (1,0)) (vs:=[.int (hn b)]) rfl ((zg A.o).trans D.w7) rfl (zhu H HP D n A a K hm b)) k)
  (b4 (t:=decide (cell.fmod 16=15)) rfl (fun _=>wh (jn (x:=.ref (1,0)) (vs:=[.int (hn b)]) rfl ((zg A.o).trans D.w8) rfl (zik H HP D n A a K hm b)) k)
   (b4 (t:=decide (10 < cell.fmod 16)) rfl (fun _=>wh (jn (x:=.ref (1,0)) (vs:=[.int (hn b)]) rfl ((zg A.o).trans D.w6) rfl (zj6 H HP D n A a K hm b)) k)
    (zz (k _ (.one .same A (.refl _ _))))))
theorem zgr (n:Nat) (A:WAt u ks W x) (a:WI ks nc m W) (K:KeysFine ks) (hm:m < 1000000) (k:∀ t,DD ks nc W u none t→Q (.next,bn ks nc cell more b W.post.length none none none) t) :
  OkR (exs P (run P (n + 5)) (n + 5) zox (bn ks nc cell more b W.post.length none none none) u) Q:=by
 obtain ⟨key,hk,ek⟩:=zlq (P:=P) (nc:=nc) (n + 5) K (cell:=cell) (more:=more) (b:=b) (N:=W.post.length) (l1:=none) (l2:=none) (l3:=none) (.loc 4) more (fun u=>rfl)
 refine b4 (i4 (c:=decide (cell.fmod 16=10)) rfl (yu (zr (x:=.ref (1,0)) (vs:=[.str key]) rfl ((zg A.o).trans D.w24) (z5 (ek u) rfl) (zbp H HP D.hom (n + 2) A hk)) rfl)) (fun q=>?_) (zcq H HP D n A a K hm k)
 rcases zmt a hk with ⟨h0,-⟩ | ⟨c,r,hv,hr,hs⟩
 ·rw [h0] at q; exact nomatch ((Bool.and_eq_true _ _).mp q).2.symm.trans (congrArg (· != true) (decide_eq_true rfl))
 ·exact wh (jn (x:=.ref (1,0)) (vs:=[.str key]) rfl ((zg A.o).trans D.w5) (z5 (ek u) rfl) (zop H HP D n A a K hm hk hv hr hs)) k
omit H D HP in
theorem rt {C:Calls}{N:Nat}{l1 l2 l3:Option V}:ev P C (.cmp (.loc 6) .gt (.int 0)) (bn ks nc cell more b N l1 l2 l3) u=.ok (.bool (decide (0 < N))) u :=
 congrArg (fun q=>Res.ok (V.bool q) u) (decide_eq_decide.2 (by omega:(0:Int) < (N:Nat) ↔ 0 < N))
omit H D HP in
theorem li {p q:Prop} [Decidable p] [Decidable q] (h:(decide p && decide q)=true):p∧q :=
 have h:=(Bool.and_eq_true _ _).mp h
 ⟨of_decide_eq_true h.1,of_decide_eq_true h.2⟩
omit H D HP in
theorem zvg {N p:Nat} (h0:0 < N) (hp:p < N):∀ j:Nat,j < 4→∃ k:Nat,k < N∧getItem (.lst [.int 0,.int ((N:Nat) - 1),.int p,.int p]) (.int j) u=.ok (.int k) u
 | 0,_=>⟨0,h0,rfl⟩
 | 1,_=>⟨N - 1,Nat.sub_lt h0 Nat.one_pos,congrArg (fun q=>Res.ok (V.int q) u) (Int.ofNat_sub h0).symm⟩
 | 2,_=>⟨p,hp,rfl⟩
 | 3,_=>⟨p,hp,rfl⟩
 | j + 4,h=>absurd h (Nat.not_lt_of_le (Nat.le_add_left 4 j))
omit H D HP in
theorem zwf {c:Int} (h4:¬ c < 4) (h8:c < 8):∃ j:Nat,c - 4=j∧j < 4:=⟨(c - 4).toNat,by omega,by omega⟩
omit H D HP in
theorem zia (n:Nat) {N:Nat} (h0:0 < N) (h4:¬ cell.fmod 16 < 4) (h8:cell.fmod 16 < 8):∃ k:Nat,k < N ∧
  ev P (run P (n + 5)) (.sub (.lst [.int 0,.bin .sub (.loc 6) (.int 1),.bin .mod (.loc 4) (.loc 6),.bin .mod (.loc 4) (.loc 6)]) (.bin .sub (.bin .mod (.loc 3) (.int 16)) (.int 4))) (bn ks nc cell more b N none none none) u=.ok (.int k) u:=by
 obtain ⟨p,hp,ep⟩:=zcx (P:=P) (ks:=ks) (nc:=nc) (n + 5) (cell:=cell) (more:=more) (b:=b) (l1:=none) (l2:=none) (l3:=none) h0
 obtain ⟨j,ej,hj⟩:=zwf h4 h8
 obtain ⟨k,hk,ek⟩:=zvg (u:=u) h0 hp j hj
 exact ⟨k,hk,kh (zpa (vs:=[.int 0,.int ((N:Nat) - 1),.int p,.int p]) (z5 rfl (z5 rfl (z5 (ep u) (z5 (ep u) rfl)))) rfl) (y:=.int (cell.fmod 16 - 4)) rfl (ej ▸ ek)⟩
theorem zfc (n:Nat) (A:WAt u ks W x) (a:WI ks nc m W) (K:KeysFine ks) (h6:nc≤6) (hm:m < 1000000) (h4:¬ cell.fmod 16 < 4) (k:∀ t,DD ks nc W u none t→Q (.next,bn ks nc cell more b W.post.length none none none) t) :
  OkR (exs P (run P (n + 5)) (n + 5) [zoz] (bn ks nc cell more b W.post.length none none none) u) Q:=by
 refine b4 (i4 (c:=decide (cell.fmod 16 < 8)) rfl rt) (fun q=>?_) (b4 (i4 (c:=decide (cell.fmod 16=8)) rfl rt) (fun q=>?_) (b4 (i4 (c:=decide (cell.fmod 16=9)) rfl rt) (fun q=>?_) (zgr H HP D n A a K hm k)))
 ·obtain ⟨p,hp,ep⟩:=zia (P:=P) (u:=u) (ks:=ks) (nc:=nc) (more:=more) (b:=b) n (li q).2 h4 (li q).1
  exact wh (jn (x:=.ref (1,0)) (vs:=[.int p]) rfl ((zg A.o).trans D.w21) (z5 ep rfl) (zl4 H HP D n A a K h6 hm hp)) k
 ·obtain ⟨p,hp,ep⟩:=zcx (P:=P) (ks:=ks) (nc:=nc) (n + 5) (cell:=cell) (more:=more) (b:=b) (l1:=none) (l2:=none) (l3:=none) (li q).2
  exact wh (jn (x:=.ref (1,0)) (vs:=[.int p]) rfl ((zg A.o).trans D.w22) (z5 (ep u) rfl) (zlg H HP D n A a K h6 hm hp)) k
 ·obtain ⟨p,hp,ep⟩:=zcx (P:=P) (ks:=ks) (nc:=nc) (n + 5) (cell:=cell) (more:=more) (b:=b) (l1:=none) (l2:=none) (l3:=none) (li q).2
  exact wh (jn (x:=.ref (1,0)) (vs:=[.int p]) rfl ((zg A.o).trans D.w23) (z5 (ep u) rfl) (zmi (nc:=nc) H D n A hp)) k
omit H D HP in
theorem WI.room (a:WI ks nc m W) (hm:m < 1000000):W.post.length < 16777000:=by have:=a.pl; omega
omit HP in
theorem zcg (n:Nat) (A:WAt u ks W x) (a:WI ks nc m W) (hm:m < 1000000) {i:Nat} (hi:i < nc) {p:Int×Key×Mine.W} (hop:(W.c i).op=some p) (k:∀ t L,DD ks nc W u none t→Q (.ret .none,L) t) :
  OkR (exs P (run P (n + 5)) (n + 5) [.expr (.meth (.loc 0) 18 [.loc 7,.loc 5]),.ret (some .none)] (bn ks nc cell more b W.post.length (some (.int i)) none none) u) Q:=by
 obtain ⟨xc,hag⟩:=D.aga
 obtain ⟨t,e2,A2,f2⟩:=zcu H hag (n + 2) A (a.nc_.symm ▸ hi) b hop (a.room hm)
 exact qc (zr (x:=.ref (1,0)) (vs:=[.int i,.int (hn b)]) rfl ((zg A.o).trans D.w18) rfl e2) (qa (v:=.none) rfl (k t _ (.one (.post b i p hi hop) A2 f2)))
omit HP in
theorem zht (n:Nat) (A:WAt u ks W x) (a:WI ks nc m W) (K:KeysFine ks) (hm:m < 1000000) {i:Nat} (hi:i < nc) (hop:(W.c i).op=none) (k:∀ o t L,DD ks nc W u o t→Q (.ret (yo o),L) t) :
  OkR (exs P (run P (n + 5)) (n + 5) [.assign 8 (.sub (.loc 1) (.bin .mod (.bin .fdiv (.loc 4) (.int 3)) (.prim .len [.loc 1]))),.assign 9 (.call 102 [.bin .fdiv (.bin .mul (.bin .add (.loc 3) (.int 5)) (.int 48271)) (.int 11)]),.ret (some (.tup [.loc 7,.meth (.loc 0) 17 [.loc 7,.loc 5,.loc 8,.loc 9],.loc 8,.loc 9]))] (bn ks nc cell more b W.post.length (some (.int i)) none none) u) Q:=by
 obtain ⟨key,hk,ek⟩:=zlq (P:=P) (nc:=nc) (n + 5) K (cell:=cell) (more:=more) (b:=b) (N:=W.post.length) (l1:=some (.int i)) (l2:=none) (l3:=none) (.bin .fdiv (.loc 4) (.int 3)) (more.fdiv 3) (fun u=>rfl)
 obtain ⟨xc,hca⟩:=D.cal
 obtain ⟨yc,hnw⟩:=D.nwi
 obtain ⟨t,e2,A2,f2⟩:=ze9 H D.beg hnw hca (n + 2) A (a.nc_.symm ▸ hi) b hk (zlx H hnw (n + 2) _ (znk (((cell + 5) * 48271).fdiv 11)) u) hop (a.room hm)
 exact zn (ek u) rfl (zn (jt (z5 (vp (x:=.int ((cell + 5) * 48271)) (y:=.int 11) (vp (x:=.int (cell + 5)) (y:=.int 48271) rfl rfl (zqh _ _ _ (by decide) (by decide))) rfl rfl) rfl) (zj7 D.wis (n + 4) _ u)) rfl (qa (ff (z5 rfl (z5 (zr (x:=.ref (1,0)) rfl ((zg A.o).trans D.w17) rfl e2) (z5 rfl (z5 rfl rfl)))) rfl) (k (some ((i:Int),(W.c i).begun + 1,key,_)) _ _ ⟨_,_,_,.begin i key _ hi hop hk,.post b i ((W.c i).begun + 1,key,_) hi (congrArg CS.op (if_pos rfl)),A2,f2⟩)))
omit HP in
theorem zgm (n:Nat) (A:WAt u ks W x) (a:WI ks nc m W) (K:KeysFine ks) (h1:1≤nc) (hm:m < 1000000) (k:∀ o t L,DD ks nc W u o t→Q (.ret (yo o),L) t) :
  OkR (exs P (run P (n + 5)) (n + 5) zo7 (bn ks nc cell more b W.post.length none none none) u) Q:=by
 obtain ⟨i,hi,ei⟩:=gw (more.fdiv 2) h1
 refine zn (vp (x:=.int (more.fdiv 2)) (y:=.int nc) rfl rfl (zsc (more.fdiv 2) h1 ei u)) rfl ?_
 have ea:=zr (a:=.loc 0) (s:=u) (es:=[.loc 7]) (l:=bn ks nc cell more b W.post.length (some (.int i)) none none) (x:=.ref (1,0)) (vs:=[.int i]) rfl ((zg A.o).trans D.w11) rfl (mt H D.ask (n + 2) A (a.nc_.symm ▸ hi))
 cases hop:(W.c i).op with
 | some p=>rw [hop] at ea; exact zt (t:=true) (yu (g:=true) (t:=false) ea (decide_eq_false nofun)) (zcg H D n A a hm hi hop fun t L q=>k none t L q)
 | none=>rw [hop] at ea; exact zt (t:=false) (yu (g:=true) (t:=true) ea (decide_eq_true rfl)) (zi (zht H D n A a K hm hi hop k))
end
theorem zk0 {fd:Nat} (hfd:P.fns fd=some zql) (n:Nat) (A:WAt u ks W x) (a:WI ks nc m W) (K:KeysFine ks) (h1:1≤nc) (h6:nc≤6) (hm:m < 1000000) (cell:Int):OkR (run P (n + 6) fd [.ref (1,0),.lst (ks.map .str),.int nc,.int cell] u) fun v t=>∃ o,v=yo o∧DD ks nc W u o t:=by
 have A1:=A.step (zpp (k:=11) (by decide) (.list (W.post.map qp)))
 have f1:Fr NWp u (u.new 11 (.list (W.post.map qp))):=(Fr.refl _ _).new _ _
 refine zl hfd rfl (zn rfl rfl (zn (congrArg (fun q=>Res.ok (V.int q) u) (ze7 (cell.fdiv 16))) rfl (zn (yn (z5 (zr (x:=.ref (1,0)) (vs:=[]) rfl ((zg A.o).trans D.w19) rfl (wt H D.lts (n + 4) A)) rfl) ((bg (jm (zy _ _ _))).trans (by rw [List.length_map]))) rfl ?_)))
 show OkR (exs P _ _ _ (bn ks nc cell (cell.fdiv 16) (decide ((cell.fdiv 16).fmod 2=1)) W.post.length none none none) _) _
 by_cases h4:cell.fmod 16 < 4
 ·exact zt (t:=true) (congrArg (fun q=>Res.ok (V.bool q) _) (decide_eq_true h4)) (zgm H D n A1 a K h1 hm fun o t L q=>⟨o,rfl,q.pre f1⟩)
 ·exact zt (t:=false) (congrArg (fun q=>Res.ok (V.bool q) _) (decide_eq_false h4)) (zi (zmd (zfc H HP D n A1 a K h6 hm h4 fun t q=>by rw [vd]; exact qa (v:=.none) rfl ⟨none,rfl,q.pre f1⟩)))
end
end Mine
end
section
namespace Mine
theorem dv (x:z9) (c:Int):∀ l:List z9,(∀ m∈l,m.1≠x.1)→je c (mins x l)=if c=x.1 then some x.2 else je c l
 | [],_=>by
  show (if x.1=c then some x.2 else none)=if c=x.1 then some x.2 else none
  by_cases h:c=x.1
  ·rw [if_pos h,if_pos h.symm]
  ·rw [if_neg h,if_neg fun e=>h e.symm]
 | m :: l,hn=>by
  have ih:=dv x c l fun q hq=>hn q (List.mem_cons_of_mem _ hq)
  have hm:=hn m (List.mem_cons_self ..)
  rw [mins]
  by_cases h1:x.1 < m.1
  ·rw [if_pos h1,je]
   by_cases h:c=x.1
   ·rw [if_pos h,if_pos h.symm]
   ·rw [if_neg h,if_neg fun e=>h e.symm]
  ·rw [if_neg h1,je,je,ih]
   by_cases h2:m.1=c
   ·rw [if_pos h2,if_pos h2,if_neg fun e=>hm (h2.trans e)]
   ·rw [if_neg h2,if_neg h2]
theorem gq {c c':Int} (h:c'≠c):∀ l:List z9,je c' (l.filter fun m=>!decide (m.1=c))=je c' l
 | []=>rfl
 | m :: l=>by
  have ih:=gq h l
  by_cases h1:m.1=c
  ·rw [List.filter_cons,if_neg (by rw [decide_eq_true h1]; exact Bool.false_ne_true),je,if_neg fun e=>h (e.symm.trans h1)]; exact ih
  ·rw [List.filter_cons,if_pos (by rw [decide_eq_false h1]; rfl),je,je,ih]
theorem bv (c:Int) (x:z9) (ms:List z9):je c (cy x ms)=if c=x.1 then some x.2 else je c ms:=by
 rw [cy,dv _ _ _ (yq ms x.1)]
 by_cases h:c=x.1
 ·rw [if_pos h,if_pos h]
 ·rw [if_neg h,if_neg h,gq h]
theorem Chain.keep {c a':Int}{ms':List z9}:∀ {l:List LRow}{a:Int}{ms:List z9}{p:Int×Int},Chain a ms l a' ms'→je c ms=some p→∃ p',je c ms'=some p'∧p.1≤p'.1
 | [],_,_,p,⟨_,e⟩,h=>⟨p,by rw [e]; exact h,Int.le_refl _⟩
 | r :: l,a,ms,p,⟨g,ch⟩,h=>by
  have e:=bv c (r.c,r.n,(dn a r.w).2) ms
  by_cases hc:c=r.c
  ·rw [if_pos hc] at e
   obtain ⟨p',h1,h2⟩:=ch.keep (c:=c) e
   have:=g.2 p (by rw [← hc]; exact h)
   have h2:r.n≤p'.1:=h2
   exact ⟨p',h1,by lia⟩
  ·rw [if_neg hc] at e
   exact ch.keep (c:=c) (e.trans h)
theorem Chain.has {a':Int}{ms':List z9}{r:LRow}:∀ {l:List LRow}{a:Int}{ms:List z9},Chain a ms l a' ms'→r∈l→∃ p,je r.c ms'=some p∧r.n≤p.1
 | x :: l,a,ms,⟨g,ch⟩,h=>by
  rcases List.mem_cons.1 h with rfl | h
  ·exact ch.keep (c:=r.c) (p:=(r.n,(dn a r.w).2)) ((bv r.c (r.c,r.n,(dn a r.w).2) ms).trans (if_pos rfl))
  ·exact ch.has h
theorem Chain.split {a':Int}{ms':List z9}{r:LRow}{l':List LRow}:∀ {l:List LRow}{a:Int}{ms:List z9},Chain a ms (l ++ r :: l') a' ms'→∃ a1 m1,Chain a ms l a1 m1∧ziw a1 m1 r
 | [],a,ms,⟨g,_⟩=>⟨a,ms,.nil,g⟩
 | x :: l,a,ms,⟨g,ch⟩=>by
  obtain ⟨a1,m1,h1,h2⟩:=Chain.split (l:=l) ch
  exact ⟨a1,m1,⟨g,h1⟩,h2⟩
noncomputable def amF:Int→List LRow→Int
 | a,[]=>a
 | a,r :: l=>amF (dn a r.w).1 l
theorem Chain.amt {a':Int}{ms':List z9}:∀ {l:List LRow}{a:Int}{ms:List z9},Chain a ms l a' ms'→a'=amF a l
 | [],_,_,⟨e,_⟩=>e
 | _ :: _,_,_,⟨_,ch⟩=>ch.amt
noncomputable def am (key:Key) (Q:List LRow):Int:=amF 0 (qe key Q)
theorem zqo {ks:List Key}{nc m:Nat}{W:WS}{G:List Call} (J:WJ ks nc m W G) {Q Rm:List LRow}{r:LRow} (e:W.rows=Q ++ r :: Rm):r.call∈G∧r.told=(dn (am r.k Q) r.w).2∧∀ r'∈Q,¬ (r'.c=r.c∧r'.n=r.n):=by
 have hr:r.call∈G:=J.rb r (by rw [e]; exact List.mem_append_right _ (List.mem_cons_self ..))
 obtain ⟨A,M,t⟩:=J.ti r.k (J.gk _ hr).1
 have ch:=t.ch
 rw [e,gf,show qe r.k (r :: Rm)=r :: qe r.k Rm from List.filter_cons_of_pos (decide_eq_true rfl)] at ch
 obtain ⟨a1,m1,h1,h2,h3⟩:=ch.split
 refine ⟨hr,by rw [h2,h1.amt]; rfl,fun r' hr' q=>?_⟩
 have hc:=J.gu _ (J.rb r' (by rw [e]; exact List.mem_append_left _ hr')) _ hr q.1 q.2
 have hk:r'.k=r.k:=congrArg (fun g:Call=>g.2.2.1) hc
 obtain ⟨p,p1,p2⟩:=h1.has (r:=r') (List.mem_filter.2 ⟨hr',decide_eq_true hk⟩)
 have:=h3 p (by rw [← q.1]; exact p1)
 have:=q.2
 lia
theorem WJ.new {ks:List Key} (nd:ks.Nodup) (nc:Nat):WJ ks nc 0 (W0 ks nc) [] where
 wi:=WI.new nd nc
 ti:=fun key hk=>by
  have e:∀ b,zb (HS.new (hn b) ks).known key=bu (hn b):=fun b=>by
   refine z3 (j9 ?_ ?_)
   ·rw [we (hn b) nd,List.map_map]; exact (List.map_id ks).symm ▸ nd
   ·rw [we (hn b) nd]; exact List.mem_map.2 ⟨key,hk,rfl⟩
  have e':∀ b,zb (HS.new (hn b) ks).written key=bu (hn b):=e
  have hs:∀ b,Live (bu (hn b)) (bu (hn b))→Is (bu (hn b)) 0 []:=fun b _=>by cases b <;> exact ⟨rfl,rfl⟩
  have ho:∀ b,(bu (hn b)).st≠.owes:=fun b=>by cases b <;> decide
  refine ⟨0,[],.nil,fun b=>?_,fun b=>?_,fun b=>?_,fun b _=>rfl,fun b=>?_,fun b T a ms q=>(List.not_mem_nil q).elim,fun b T a ms q=>(List.not_mem_nil q).elim⟩
  ·show (zb (HS.new (hn b) ks).written key).st=.here→Is (zb (HS.new (hn b) ks).written key) 0 []
   rw [e']; exact fun q=>hs b (.inl q)
  ·show (zb (HS.new (hn b) ks).written key).st=.owes→_
   rw [e']; exact fun q=>absurd q (ho b)
  ·show Live (zb (HS.new (hn b) ks).known key) (zb (HS.new (hn b) ks).written key)→Chain 0 [] [] (zb (HS.new (hn b) ks).known key).amt (zb (HS.new (hn b) ks).known key).marks
   rw [e,e']; exact fun l=>by obtain ⟨e1,e2⟩:=hs b l; rw [e1,e2]; exact .nil
  ·show _→(zb (HS.new (hn b) ks).written key).st=.owes→_
   rw [e']; exact fun _ q=>absurd q (ho b)
 pb:=fun _ _ _ _ _ q=>(List.not_mem_nil q).elim
 lb:=fun _ _ _ _ _ _ q=>(List.not_mem_nil q).elim
 ob:=fun i hi p hp=>nomatch hp
 fb:=fun _ _ q=>(List.not_mem_nil q).elim
 rb:=fun _ q=>(List.not_mem_nil q).elim
 gk:=fun _ q=>(List.not_mem_nil q).elim
 gu:=fun _ q=>(List.not_mem_nil q).elim
end Mine
end
section
namespace Mine
theorem Chain.mark {a':Int}{ms':List z9}{c:Int}{p:Int×Int}:∀ {l:List LRow}{a:Int}{ms:List z9},Chain a ms l a' ms'→je c ms'=some p→je c ms=some p∨∃ r∈l,r.c=c∧r.n=p.1∧r.told=p.2
 | [],_,_,⟨_,e⟩,h=>.inl (by rw [← e]; exact h)
 | r :: l,a,ms,⟨g,ch⟩,h=>by
  rcases ch.mark h with h | ⟨x,hx,q⟩
  ·rw [zd6,bv] at h
   by_cases hc:c=r.c
   ·rw [if_pos hc] at h
    cases h
    exact .inr ⟨r,List.mem_cons_self ..,hc.symm,rfl,g.1⟩
   ·rw [if_neg hc] at h; exact .inl h
  ·exact .inr ⟨x,List.mem_cons_of_mem _ hx,q⟩
noncomputable def ut (r:LRow) (c n t:Int):Prop:=r.c=c∧r.n=n∧r.told=t
noncomputable def yz (n:Nat):List Int:=(List.range n).map fun (k:Nat)=>(k:Int) + 1
theorem g9 (n:Nat):yz (n + 1)=yz n ++ [(n:Int) + 1]:=by rw [yz,List.range_succ,List.map_append]; rfl
noncomputable def ownOf (i:Nat) (G:List Call):List Call:=G.filter fun g=>decide (g.1=(i:Int))
theorem zeo (i:Nat) (G G':List Call):ownOf i (G ++ G')=ownOf i G ++ ownOf i G':=List.filter_append ..
set_option genCtorIdx false in
structure CK (i:Nat) (c:CS) (G:List Call):Prop where
 cn:c.closed.map (·.1)=yz c.closed.length
 cb:c.begun=(c.closed.length:Int) + (if c.op.isSome then 1 else 0)
 co:∀ p,c.op=some p→p.1=c.begun
 gn:(ownOf i G).map (·.2.1)=yz (c.closed.length + (if c.op.isSome then 1 else 0))
 gl:∀ p,c.op=some p→∃ G',ownOf i G=G' ++ [((i:Int),p)]
set_option genCtorIdx false in
structure WK (ks:List Key) (nc m:Nat) (W:WS) (G:List Call):Prop where
 wj:WJ ks nc m W G
 pa:∀ c n t,Letter.answer c n t∈W.post→∃ r∈W.rows,ut r c n t
 la:∀ b c n t,Letter.answer c n t∈(W.h b).laid→∃ r,(r∈W.rows∨r∈(W.h b).fresh)∧ut r c n t
 cl:∀ i,i < nc→∀ p∈(W.c i).closed,∃ r∈W.rows,ut r i p.1 p.2
 ck:∀ i,i < nc→CK i (W.c i) G
section
variable {ks:List Key}{nc m:Nat}{W W':WS}{o:Option Call}{G:List Call}
theorem CK.came {i:Nat}{c:CS} (a:CK i c G) (n t:Int):CK i (c.came n t) G:=by
 unfold CS.came
 split
 ·rename_i p hp
  split
  ·rename_i hn
   have h1:=a.co p hp
   have h2:=a.cb
   have h3:=a.gn
   rw [hp] at h2 h3
   have h2:c.begun=(c.closed.length:Int) + 1:=h2
   have h3:(ownOf i G).map (·.2.1)=yz (c.closed.length + 1):=h3
   have hl:(c.closed ++ [(n,t)]).length=c.closed.length + 1:=List.length_append ..
   refine ⟨?_,?_,fun p h=>(nomatch h),?_,fun p h=>(nomatch h)⟩
   ·show (c.closed ++ [(n,t)]).map (·.1)=yz (c.closed ++ [(n,t)]).length
    rw [hl,g9,List.map_append,a.cn,← h2,← h1,hn]; rfl
   ·show c.begun=(((c.closed ++ [(n,t)]).length:Nat):Int) + 0
    rw [hl,h2]; lia
   ·show (ownOf i G).map (·.2.1)=yz ((c.closed ++ [(n,t)]).length + 0)
    rw [hl,h3]
  ·exact a
 ·exact a
theorem CK.begin {i:Nat}{c:CS} (a:CK i c G) (ho:c.op=none) (k:Key) (w:Mine.W):CK i ⟨c.begun + 1,some (c.begun + 1,k,w),c.closed⟩ (G ++ [((i:Int),c.begun + 1,k,w)]):=by
 have h2:=a.cb
 have h3:=a.gn
 rw [ho] at h2 h3
 have h2:c.begun=(c.closed.length:Int) + 0:=h2
 have h3:(ownOf i G).map (·.2.1)=yz c.closed.length:=h3
 have h4:ownOf i (G ++ [((i:Int),c.begun + 1,k,w)])=ownOf i G ++ [((i:Int),c.begun + 1,k,w)]:=by
  rw [zeo]
  congr 1
  exact List.filter_cons_of_pos (decide_eq_true rfl)
 refine ⟨a.cn,?_,fun p h=>by cases h; rfl,?_,fun p h=>by cases h; exact ⟨_,h4⟩⟩
 ·show c.begun + 1=(c.closed.length:Int) + 1
  lia
 ·show (ownOf i (G ++ [((i:Int),c.begun + 1,k,w)])).map (·.2.1)=yz (c.closed.length + 1)
  rw [h4,List.map_append,h3,g9]
  congr 1
  show [c.begun + 1]=_
  rw [show c.begun + 1=(c.closed.length:Int) + 1 by lia]
theorem CK.other {i:Nat}{c:CS} (a:CK i c G) {g:Call} (hg:g.1≠(i:Int)):CK i c (G ++ [g]):=by
 have h4:ownOf i (G ++ [g])=ownOf i G:=by
  rw [zeo,show ownOf i [g]=[] from List.filter_cons_of_neg (by rw [decide_eq_false hg]; exact Bool.false_ne_true),List.append_nil]
 exact ⟨a.cn,a.cb,a.co,by rw [h4]; exact a.gn,fun p h=>by rw [h4]; exact a.gl p h⟩
theorem zlh (J:WJ ks nc m W G) {b:Bool}{L:Letter} (la:∀ c n t,Letter.answer c n t∈(W.h b).laid→∃ r,(r∈W.rows∨r∈(W.h b).fresh)∧ut r c n t) (hL:L∈W.post) :
  ∀ c n t,Letter.answer c n t∈((W.h b).came L).laid→∃ r,(r∈W.rows∨r∈((W.h b).came L).fresh)∧ut r c n t:=by
 cases L with
 | answer=>exact la
 | call hh c n k w =>
  cases hk:z7 k (W.h b).known with
  | none=>rw [jq hk]; exact la
  | some r =>
   rw [jk hk]
   by_cases hs:r.st=.here
   ·rw [if_pos hs]
    have fi:∀ c' n' t',Letter.answer c' n' t'∈((W.h b).first c n k w r).laid→∃ x,(x∈W.rows∨x∈((W.h b).first c n k w r).fresh)∧ut x c' n' t':=fun c' n' t' q=>by
     rcases List.mem_append.1 q with q | q
     ·obtain ⟨x,h1,h2⟩:=la c' n' t' q
      exact ⟨x,h1.imp id fun z=>List.mem_append_left _ z,h2⟩
     ·cases List.mem_singleton.1 q
      exact ⟨⟨c,n,k,w,(dn r.amt w).2⟩,.inr (List.mem_append_right _ (List.mem_singleton.2 rfl)),rfl,rfl,rfl⟩
    unfold HS.called
    split
    ·rename_i p hp
     split
     ·exact la
     ·split
      ·rename_i h1 h2
       intro c' n' t' q
       rcases List.mem_append.1 q with q | q
       ·exact la c' n' t' q
       ·cases List.mem_singleton.1 q
        have hg:=J.pb _ _ _ _ _ hL
        obtain ⟨A,M,T⟩:=J.ti k (J.gk _ hg).1
        have kl:=T.kl b (.inl (by show (zb (W.h b).known k).st=_; rw [z3 hk]; exact hs))
        have ch:=T.ch.app kl
        have e:je c (zb (W.h b).known k).marks=some p:=by rw [z3 hk]; exact hp
        rcases ch.mark e with q | ⟨x,hx,q1,q2,q3⟩
        ·cases q
        ·refine ⟨x,?_,q1,q2.trans h2,q3⟩
         exact (List.mem_append.1 hx).imp (fun z=>(List.mem_filter.1 z).1) fun z=>(List.mem_filter.1 z).1
      ·exact fi
    ·exact fi
   ·rw [if_neg hs]; exact la
 | parcel hh k T a ms =>
  cases hk:z7 k (W.h b).known with
  | none=>rw [jg hk]; exact la
  | some r=>rw [jb hk]; exact fun c n t q=>la c n t ((List.mem_append.1 q).elim id fun q=>nomatch List.mem_singleton.1 q)
 | taken hh k T =>
  cases hk:z7 k (W.h b).known with
  | none=>rw [jo hk]; exact la
  | some r =>
   rw [ji hk]
   split
   ·exact la
   ·exact la
theorem WK.house (a:WK ks nc m W G) (b:Bool) {y:HS} (w:WJ ks nc (m + 1) { W with h:=upd W.h b y } G) (la:∀ c n t,Letter.answer c n t∈y.laid→∃ r,(r∈W.rows∨r∈y.fresh)∧ut r c n t):WK ks nc (m + 1) { W with h:=upd W.h b y } G :=
 ⟨w,a.pa,jf (P:=fun _ (h:HS)=>∀ c n t,Letter.answer c n t∈h.laid→∃ r,(r∈W.rows∨r∈h.fresh)∧ut r c n t) la fun i _=>a.la i,a.cl,a.ck⟩
theorem WK.setPost (a:WK ks nc m W G) {post':List Letter} (w:WJ ks nc (m + 1) { W with post:=post' } G) (pa:∀ c n t,Letter.answer c n t∈post'→Letter.answer c n t∈W.post):WK ks nc (m + 1) { W with post:=post' } G :=
 ⟨w,fun c n t q=>a.pa c n t (pa c n t q),a.la,a.cl,a.ck⟩
theorem WK.step (a:WK ks nc m W G) (nd:ks.Nodup) (k6:ks.length≤6) (h6:nc≤6) (s:WStep ks nc W o W'):WK ks nc (m + 1) W' (G ++ o.toList):=by
 have w:=(a.wj.step nd k6 h6 s).1
 have eG:G ++ (none:Option Call).toList=G:=List.append_nil G
 cases s with
 | same=>rw [eG] at w ⊢; exact ⟨w,a.pa,a.la,a.cl,a.ck⟩
 | post b i p hi ho=>rw [eG] at w ⊢; exact a.setPost w fun c n t q=>(List.mem_append.1 q).elim id fun q=>nomatch List.mem_singleton.1 q
 | begin i k w' hi ho hk =>
  refine ⟨w,a.pa,a.la,fun j hj p hp=>?_,fun j hj=>?_⟩
  ·have hp:p∈(if j=i then (⟨(W.c i).begun + 1,some ((W.c i).begun + 1,k,w'),(W.c i).closed⟩:CS) else W.c j).closed:=hp
   split at hp
   ·rename_i e; rw [e]; exact a.cl i hi p hp
   ·exact a.cl j hj p hp
  ·show CK j (if j=i then (⟨(W.c i).begun + 1,some ((W.c i).begun + 1,k,w'),(W.c i).closed⟩:CS) else W.c j) (G ++ [((i:Int),(W.c i).begun + 1,k,w')])
   split
   ·rename_i e; rw [e]; exact (a.ck i hi).begin ho k w'
   ·rename_i e; exact (a.ck j hj).other fun (q:(i:Int)=j)=>e (by lia)
 | came b L hL ha=>rw [eG] at w ⊢; exact a.house b w (zlh a.wj (a.la b) hL)
 | answer i n t hi hL =>
  rw [eG] at w ⊢
  refine ⟨w,a.pa,a.la,fun j hj p hp=>?_,fun j hj=>?_⟩
  ·have hp:p∈(if j=i then (W.c i).came n t else W.c j).closed:=hp
   split at hp
   ·rename_i e
    rw [e]
    unfold CS.came at hp
    split at hp
    ·split at hp
     ·rcases List.mem_append.1 hp with hp | hp
      ·exact a.cl i hi p hp
      ·cases List.mem_singleton.1 hp; exact a.pa _ _ _ hL
     ·exact a.cl i hi p hp
    ·exact a.cl i hi p hp
   ·exact a.cl j hj p hp
  ·show CK j (if j=i then (W.c i).came n t else W.c j) G
   split
   ·rename_i e; rw [e]; exact (a.ck i hi).came n t
   ·exact a.ck j hj
 | erase p=>rw [eG] at w ⊢; exact a.setPost w fun c n t q=>List.mem_of_mem_eraseIdx q
 | move b k r hr hs hk=>rw [eG] at w ⊢; exact a.house b w fun c n t q=>a.la b c n t ((List.mem_append.1 q).elim id fun q=>nomatch List.mem_singleton.1 q)
 | sleep b=>rw [eG] at w ⊢; exact a.house b w fun c n t q=>(List.not_mem_nil q).elim
 | nudge b =>
  rw [eG] at w ⊢
  refine a.setPost w fun c n t q=>(List.mem_append.1 q).elim id fun q=>?_
  obtain ⟨p,-,e⟩:=List.mem_map.1 q
  exact nomatch e
 | write b =>
  rw [eG] at w ⊢
  have rows:∀ {c n t},(∃ r∈W.rows,ut r c n t)→∃ r∈W.rows ++ (W.h b).fresh,ut r c n t:=fun ⟨r,h1,h2⟩=>⟨r,List.mem_append_left _ h1,h2⟩
  refine ⟨w,fun c n t q=>?_,jf (P:=fun _ (h:HS)=>∀ c n t,Letter.answer c n t∈h.laid→∃ r,(r∈W.rows ++ (W.h b).fresh∨r∈h.fresh)∧ut r c n t) (fun c n t q=>(List.not_mem_nil q).elim) fun i _ c n t q=>?_,fun j hj p hp=>rows (a.cl j hj p hp),a.ck⟩
  ·rcases List.mem_append.1 q with q | q
   ·exact rows (a.pa c n t q)
   ·obtain ⟨r,h1,h2⟩:=a.la b c n t q
    exact ⟨r,List.mem_append.2 h1,h2⟩
  ·obtain ⟨r,h1,h2⟩:=a.la i c n t q
   exact ⟨r,h1.imp (fun z=>List.mem_append_left _ z) id,h2⟩
theorem WK.new (nd:ks.Nodup) (nc:Nat):WK ks nc 0 (W0 ks nc) [] :=
 ⟨WJ.new nd nc,fun _ _ _ q=>(List.not_mem_nil q).elim,fun _ _ _ _ q=>(List.not_mem_nil q).elim,fun _ _ _ q=>(List.not_mem_nil q).elim,fun i _=>⟨rfl,rfl,fun p h=>(nomatch h),rfl,fun p h=>(nomatch h)⟩⟩
end
end Mine
end
section
namespace Mine
noncomputable def toB:Letter→Bool
 | .call h _ _ _ _=>decide (h=1)
 | .parcel h _ _ _ _=>decide (h=1)
 | .taken h _ _=>decide (h=1)
 | _=>false
noncomputable def bring (W:WS) (L:Letter):WS:=match L with
 | .answer c n t=>{ W with c:=vw W.c c.toNat ((W.c c.toNat).came n t) }
 | L=>{ W with h:=upd W.h (toB L) ((W.h (toB L)).came L) }
noncomputable def zq (W:WS):List Letter→WS
 | []=>W
 | L :: l=>zq (bring W L) l
theorem zcr (b:Bool):decide (hn b=1)=b:=by cases b <;> rfl
theorem zp6 {b:Bool}{L:Letter} (h:x6 b L):toB L=b:=by
 cases L with
 | answer=>exact h.elim
 | call=>rw [toB,show _=hn b from h]; exact zcr b
 | parcel=>rw [toB,show _=hn b from h]; exact zcr b
 | taken=>rw [toB,show _=hn b from h]; exact zcr b
theorem kc {W:WS}{b:Bool}{L:Letter} (h:x6 b L):bring W L={ W with h:=upd W.h b ((W.h b).came L) }:=by
 have e:=zp6 h
 cases L with
 | answer=>exact h.elim
 | call hh c n k w=>show { W with h:=upd W.h (toB (.call hh c n k w)) _ }=_; rw [e]
 | parcel hh k T a ms=>show { W with h:=upd W.h (toB (.parcel hh k T a ms)) _ }=_; rw [e]
 | taken hh k T=>show { W with h:=upd W.h (toB (.taken hh k T)) _ }=_; rw [e]
theorem u6 {W:WS}{i:Nat}{n t:Int}:bring W (.answer i n t)={ W with c:=vw W.c i ((W.c i).came n t) }:=by
 delta bring; dsimp only; rw [Int.toNat_natCast]
theorem bh (l2:List Letter):∀ (l1:List Letter) (W:WS),zq W (l1 ++ l2)=zq (zq W l1) l2
 | [],_=>rfl
 | L :: l,W=>bh l2 l (bring W L)
set_option genCtorIdx false in
structure CM (x y:HS):Prop where
 wr:y.written=x.written
 nu:y.num=x.num
 ks:y.known.map (·.1)=x.known.map (·.1)
 tu:∀ key,(zb x.known key).turn≤(zb y.known key).turn
 ow:∀ key,(zb y.known key).st=.owes→zb y.known key=zb x.known key
 la:∀ L∈x.laid,L∈y.laid
theorem CM.refl (x:HS):CM x x:=⟨rfl,rfl,rfl,fun _=>Int.le_refl _,fun _ _=>rfl,fun _ q=>q⟩
theorem CM.trans {x y z:HS} (a:CM x y) (b:CM y z):CM x z :=
 ⟨b.wr.trans a.wr,b.nu.trans a.nu,b.ks.trans a.ks,fun k=>Int.le_trans (a.tu k) (b.tu k),fun k h=>by
  have e:=b.ow k h
  rw [e] at h
  exact e.trans (a.ow k h),fun L q=>b.la L (a.la L q)⟩
theorem CM.put {x:HS}{key:Key}{r r':Row} (hk:z7 key x.known=some r) (ht:r.turn≤r'.turn) (hs:r'.st≠.owes) {la:List Letter}{fr:List LRow}:CM x { x with known:=qt key r' x.known,laid:=x.laid ++ la,fresh:=fr } where
 wr:=rfl
 nu:=rfl
 ks:=yf _ _ _ _ hk
 tu k:=by
  show _≤(zb (qt key r' x.known) k).turn
  rw [qj]
  split
  ·rename_i e; rw [e,z3 hk]; exact ht
  ·exact Int.le_refl _
 ow k h:=by
  have h:(zb (qt key r' x.known) k).st=.owes:=h
  show zb (qt key r' x.known) k=_
  rw [qj] at h ⊢
  split at h
  ·exact absurd h hs
  ·rename_i e; rw [if_neg e]
 la:=fun L q=>List.mem_append_left _ q
theorem CM.called {x:HS}{c n:Int}{k:Key}{w:W}{r:Row} (hk:z7 k x.known=some r):CM x (x.called c n k w r):=by
 have fi:CM x (x.first c n k w r):=CM.put (r':=⟨.here,r.turn,(dn r.amt w).1,cy (c,n,(dn r.amt w).2) r.marks⟩) hk (Int.le_refl _) nofun
 unfold HS.called
 split
 ·split
  ·exact .refl _
  ·split
   ·exact ⟨rfl,rfl,rfl,fun _=>Int.le_refl _,fun _ _=>rfl,fun L q=>List.mem_append_left _ q⟩
   ·exact fi
 ·exact fi
theorem CM.came (x:HS) (L:Letter):CM x (x.came L):=by
 cases L with
 | answer=>exact .refl _
 | call hh c n k w =>
  cases hk:z7 k x.known with
  | none=>rw [jq hk]; exact .refl _
  | some r =>
   rw [jk hk]
   split
   ·exact .called hk
   ·exact .refl _
 | parcel hh k T a ms =>
  cases hk:z7 k x.known with
  | none=>rw [jg hk]; exact .refl _
  | some r =>
   rw [jb hk]
   split
   ·rename_i h; exact CM.put (r':=⟨.here,T,a,ms⟩) hk (Int.le_of_lt h) nofun
   ·exact ⟨rfl,rfl,rfl,fun _=>Int.le_refl _,fun _ _=>rfl,fun L q=>List.mem_append_left _ q⟩
 | taken hh k T =>
  cases hk:z7 k x.known with
  | none=>rw [jo hk]; exact .refl _
  | some r =>
   rw [ji hk]
   split
   ·have:=CM.put (x:=x) (r':=⟨.gone,r.turn,0,[]⟩) (la:=[]) (fr:=x.fresh) hk (Int.le_refl _) nofun
    rw [List.append_nil] at this
    exact this
   ·exact .refl _
set_option genCtorIdx false in
structure WM (W W':WS):Prop where
 h:∀ b,CM (W.h b) (W'.h b)
 op:∀ i p,(W'.c i).op=some p→(W.c i).op=some p
 be:∀ i,(W'.c i).begun=(W.c i).begun
 ro:W'.rows=W.rows
 nc:W'.nc=W.nc
theorem WM.refl (W:WS):WM W W:=⟨fun _=>.refl _,fun _ _ h=>h,fun _=>rfl,rfl,rfl⟩
theorem WM.trans {W W1 W2:WS} (a:WM W W1) (b:WM W1 W2):WM W W2:=⟨fun k=>(a.h k).trans (b.h k),fun i p h=>a.op i p (b.op i p h),fun i=>(b.be i).trans (a.be i),b.ro.trans a.ro,b.nc.trans a.nc⟩
theorem WM.house (W:WS) (b:Bool) (L:Letter):WM W { W with h:=upd W.h b ((W.h b).came L) } :=
 ⟨jf (P:=fun k (x:HS)=>CM (W.h k) x) (.came _ _) fun _ _=>.refl _,fun _ _ h=>h,fun _=>rfl,rfl,rfl⟩
theorem WM.caller (W:WS) (i:Nat) (n t:Int):WM W { W with c:=vw W.c i ((W.c i).came n t) } :=
 ⟨fun _=>.refl _,fun j p h=>by
  have h:(if j=i then (W.c i).came n t else W.c j).op=some p:=h
  split at h
  ·rename_i e; rw [e]; exact zd2 h
  ·exact h,fun j=>by
  show (if j=i then (W.c i).came n t else W.c j).begun=_
  split
  ·rename_i e; rw [e,cw]
  ·rfl,rfl,rfl⟩
theorem WM.bring (W:WS) (L:Letter):WM W (bring W L):=by
 cases L with
 | answer c n t=>exact WM.caller W c.toNat n t
 | call=>exact WM.house W _ _
 | parcel=>exact WM.house W _ _
 | taken=>exact WM.house W _ _
theorem WM.all:∀ (l:List Letter) (W:WS),WM W (zq W l)
 | [],W=>.refl W
 | L :: l,W=>(WM.bring W L).trans (WM.all l (Mine.bring W L))
section
variable {ks:List Key}{nc m:Nat}{W:WS}{G:List Call}{b:Bool}{key:Key}
theorem zb6 {T a:Int}{ms:List z9} (nu:(W.h b).num=hn b) {r:Row} (hk:z7 key (W.h b).known=some r):T≤(zb ((bring W (.parcel (hn b) key T a ms)).h b).known key).turn∧Letter.taken (hn (!b)) key T∈((bring W (.parcel (hn b) key T a ms)).h b).laid:=by
 rw [kc (b:=b) (L:=.parcel (hn b) key T a ms) rfl]
 show T≤(zb (upd W.h b _ b).known key).turn∧_∈(upd W.h b _ b).laid
 rw [zh,jb hk,nu,x9]
 refine ⟨?_,List.mem_append_right _ (List.mem_singleton.2 rfl)⟩
 show T≤(zb (if r.turn < T then qt key ⟨.here,T,a,ms⟩ (W.h b).known else (W.h b).known) key).turn
 split
 ·rw [qj,if_pos rfl]; exact Int.le_refl _
 ·rename_i h; rw [z3 hk]; lia
theorem zgl {T:Int}{r:Row} (hk:z7 key (W.h b).known=some r):¬ ((zb ((bring W (.taken (hn b) key T)).h b).known key).st=.owes∧T=(zb ((bring W (.taken (hn b) key T)).h b).known key).turn + 1):=by
 rw [kc (b:=b) (L:=.taken (hn b) key T) rfl]
 show ¬ ((zb (upd W.h b _ b).known key).st=.owes∧T=(zb (upd W.h b _ b).known key).turn + 1)
 rw [zh,ji hk]
 split
 ·show ¬ ((zb (qt key ⟨.gone,r.turn,0,[]⟩ (W.h b).known) key).st=.owes∧_)
  rw [qj,if_pos rfl]; exact fun q=>nomatch q.1
 ·rename_i h; rw [z3 hk]; exact h
theorem zdm {i:Nat}{n t:Int}{p:Int×Key×Mine.W} (h:((bring W (.answer i n t)).c i).op=some p):p.1≠n:=by
 rw [u6] at h
 have h:(if i=i then (W.c i).came n t else W.c i).op=some p:=h
 rw [if_pos rfl] at h
 unfold CS.came at h
 split at h
 ·rename_i q hq
  split at h
  ·cases h
  ·rename_i hn
   rw [hq] at h
   cases h
   exact hn
 ·rename_i hq; rw [hq] at h; cases h
theorem zjf {c n:Int}{w:Mine.W}{r:Row} (hk:z7 key (W.h b).known=some r) (hs:r.st=.here) (hm:∀ p,je c r.marks=some p→p.1≤n):∃ t,Letter.answer c n t∈((bring W (.call (hn b) c n key w)).h b).laid:=by
 rw [kc (b:=b) (L:=.call (hn b) c n key w) rfl]
 show ∃ t,_∈(upd W.h b _ b).laid
 rw [zh,jk hk,if_pos hs]
 have fi:∃ t,Letter.answer c n t∈((W.h b).first c n key w r).laid:=⟨_,List.mem_append_right _ (List.mem_singleton.2 rfl)⟩
 unfold HS.called
 split
 ·rename_i p hp
  have:=hm p hp
  split
  ·lia
  ·split
   ·exact ⟨_,List.mem_append_right _ (List.mem_singleton.2 rfl)⟩
   ·exact fi
 ·exact fi
theorem zmy {L:Letter} (hL:∃ h c n k w,L=.call h c n k w) (b:Bool):(zb ((bring W L).h b).known key).st=(zb (W.h b).known key).st:=by
 obtain ⟨h,c,n,k,w,rfl⟩:=hL
 show (zb (upd W.h (toB (.call h c n k w)) _ b).known key).st=_
 by_cases e:b=toB (.call h c n k w)
 ·rw [e,zh]
  generalize toB (.call h c n k w)=b'
  cases hk:z7 k (W.h b').known with
  | none=>rw [jq hk]
  | some r =>
   rw [jk hk]
   split
   ·rename_i hs; exact (mi hk hs).1
   ·rfl
 ·rw [v0 e]
theorem zao:∀ (l:List Letter) (W:WS),(∀ L∈l,∃ h c n k w,L=Letter.call h c n k w)→∀ b,(zb ((zq W l).h b).known key).st=(zb (W.h b).known key).st
 | [],_,_,_=>rfl
 | L :: l,W,h,b=>(zao l (bring W L) (fun L' q=>h L' (List.mem_cons_of_mem _ q)) b).trans (zmy (h L (List.mem_cons_self ..)) b)
theorem WK.bring {L:Letter}{l:List Letter} (a:WK ks nc m { W with post:=L :: l } G) (nd:ks.Nodup) (k6:ks.length≤6) (h6:nc≤6):WK ks nc (m + 2) { Mine.bring W L with post:=l } G:=by
 have hL:L∈L :: l:=List.mem_cons_self ..
 have eG:G ++ (none:Option Call).toList=G:=List.append_nil G
 have ho:=a.wj.wi.po L hL
 have house:∀ b,x6 b L→WK ks nc (m + 2) { Mine.bring W L with post:=l } G:=fun b hb=>by
  have s1:=(a.step nd k6 h6 (.came b L hL hb)).step nd k6 h6 (.erase 0)
  rw [eG,eG] at s1
  rw [kc hb]
  exact s1
 cases L with
 | answer c n t =>
  obtain ⟨i,hi,rfl⟩:=ho
  have s1:=(a.step nd k6 h6 (.answer i n t hi hL)).step nd k6 h6 (.erase 0)
  rw [eG,eG] at s1
  rw [u6]
  exact s1
 | call=>obtain ⟨⟨b,rfl⟩,-⟩:=ho; exact house b rfl
 | parcel=>obtain ⟨⟨b,rfl⟩,-⟩:=ho; exact house b rfl
 | taken=>obtain ⟨⟨b,rfl⟩,-⟩:=ho; exact house b rfl
theorem WK.brings (nd:ks.Nodup) (k6:ks.length≤6) (h6:nc≤6) (l2:List Letter):∀ (l1:List Letter) (W:WS) (m:Nat),WK ks nc m { W with post:=l1 ++ l2 } G→WK ks nc (m + 2 * l1.length) { zq W l1 with post:=l2 } G
 | [],W,m,a=>a
 | L :: l,W,m,a=>by
  have a1:=WK.brings nd k6 h6 l2 l (Mine.bring W L) (m + 2) (WK.bring (l:=l ++ l2) a nd k6 h6)
  rw [List.length_cons,show m + 2 * (l.length + 1)=m + 2 + 2 * l.length by lia]
  exact a1
theorem zm9 (J:WJ ks nc m W G) (hk:key∈ks) {r:Row} (hr:z7 key (W.h b).known=some r) (hs:r.st=.here) {i:Nat}{q:Int×Int} (hq:je i r.marks=some q):q.1≤(W.c i).begun:=by
 obtain ⟨A,M,T⟩:=J.ti key hk
 have kl:=T.kl b (.inl (by show (zb (W.h b).known key).st=_; rw [z3 hr]; exact hs))
 have e:je i (zb (W.h b).known key).marks=some q:=by rw [z3 hr]; exact hq
 rcases (T.ch.app kl).mark e with z | ⟨x,hx,q1,q2,-⟩
 ·cases z
 ·have hg:x.call∈G:=(List.mem_append.1 hx).elim (fun z=>J.rb x (List.mem_filter.1 z).1) fun z=>J.fb b x (List.mem_filter.1 z).1
  obtain ⟨-,j,-,h3,h4⟩:=J.gk _ hg
  have h3:x.c=(j:Int):=h3
  have h4:x.n≤(W.c j).begun:=h4
  have:j=i:=by lia
  subst this
  lia
theorem su {L:Letter}{l:List Letter} (h:L∈l) (W:WS):∃ l1 l2,l=l1 ++ L :: l2∧WM W (zq W l1)∧WM (bring (zq W l1) L) (zq W l):=by
 obtain ⟨l1,l2,rfl⟩:=List.append_of_mem h
 exact ⟨l1,l2,rfl,WM.all l1 W,by rw [bh]; exact WM.all l2 _⟩
set_option genCtorIdx false in
structure RD (ks:List Key) (nc m:Nat) (W:WS) (G:List Call) (P2 Cl:List Letter):Prop where
 wk:WK ks nc m { W with post:=P2 ++ Cl } G
 nu:∀ b,∀ key∈ks,(zb (W.h b).known key).st=.owes→∃ a ms,Letter.parcel (hn (!b)) key ((zb (W.h b).known key).turn + 1) a ms∈P2
 ca:∀ i,i < nc→∀ p,(W.c i).op=some p→∀ b,Letter.call (hn b) i p.1 p.2.1 p.2.2∈Cl
 cl:∀ L∈Cl,∃ h c n k w,L=Letter.call h c n k w
variable {P2 Cl:List Letter}
theorem RD.get (d:RD ks nc m W G P2 Cl) {W1:WS} (w:WM W W1) (hk:key∈ks) (b:Bool):∃ r,z7 key (W1.h b).known=some r:=by
 refine lu ?_
 rw [(w.h b).ks,(d.wk.wj.wi.hi b).hk]; exact hk
theorem RD.owed (d:RD ks nc m W G P2 Cl) {l:List Letter} (hl:∀ L∈P2,L∈l) (hk:key∈ks) (b:Bool) (ho:(zb ((zq W l).h b).known key).st=.owes) :
  (zb ((zq W l).h b).known key).turn + 1≤(zb ((zq W l).h (!b)).known key).turn∧Letter.taken (hn b) key ((zb ((zq W l).h b).known key).turn + 1)∈((zq W l).h (!b)).laid:=by
 have e:=((WM.all l W).h b).ow key ho
 rw [e] at ho ⊢
 obtain ⟨a,ms,hp⟩:=d.nu b key hk ho
 obtain ⟨l1,l2,-,w1,w2⟩:=su (hl _ hp) W
 obtain ⟨r,hr⟩:=d.get w1 hk (!b)
 obtain ⟨h1,h2⟩:=zb6 (W:=zq W l1) (T:=(zb (W.h b).known key).turn + 1) (a:=a) (ms:=ms) (((w1.h (!b)).nu).trans (d.wk.wj.wi.nu (!b))) hr
 rw [not_not] at h2
 exact ⟨Int.le_trans h1 ((w2.h (!b)).tu key),(w2.h (!b)).la _ h2⟩
theorem RD.here (d:RD ks nc m W G P2 Cl) {l rest:List Letter}{m':Nat} (hl:∀ L∈P2,L∈l) (k:WK ks nc m' { zq W l with post:=rest } G) (hk:key∈ks):∃ b,(zb ((zq W l).h b).known key).st=.here:=by
 refine Classical.byContradiction fun hn=>?_
 have hn:∀ b,(zb ((zq W l).h b).known key).st≠.here:=fun b q=>hn ⟨b,q⟩
 have ki:=k.wj.wi.ki key hk
 have one:∀ b,(zb ((zq W l).h b).known key).st≠.owes:=fun b ho=>by
  have h1:=(d.owed hl hk b ho).1
  cases q:(zb ((zq W l).h (!b)).known key).st with
  | here=>exact hn (!b) q
  | owes =>
   have h2:=(d.owed hl hk (!b) q).1
   rw [not_not] at h2
   lia
  | gone =>
   have g1:=(ki.oth b).gk q
   have g2:=(ki.side b).le
   dsimp only at g1 g2
   lia
 rcases (ki.side false).owes (ki.oth false) (hn false) (hn true) with h | h
 ·exact one false h
 ·exact one true h
theorem RD.answered (d:RD ks nc m W G P2 Cl) (nd:ks.Nodup) (k6:ks.length≤6) (h6:nc≤6) {i:Nat} (hi:i < nc) {p:Int×Key×Mine.W} (hp:((zq W (P2 ++ Cl)).c i).op=some p):∃ b t,Letter.answer i p.1 t∈((zq W (P2 ++ Cl)).h b).laid:=by
 have hp0:=(WM.all (P2 ++ Cl) W).op i p hp
 have hkey:=(d.wk.wj.wi.co i hi).1 p hp0
 have hpn:p.1=(W.c i).begun:=(d.wk.ck i hi).co p hp0
 have km:=WK.brings nd k6 h6 Cl P2 W m d.wk
 obtain ⟨b,hb⟩:=d.here (l:=P2) (fun _ q=>q) km hkey
 have hL:=d.ca i hi p hp0 b
 obtain ⟨l1,l2,e,w1,w2⟩:=su hL (zq W P2)
 have k1:=WK.brings nd k6 h6 (Letter.call (hn b) i p.1 p.2.1 p.2.2 :: l2) l1 (zq W P2) _ (by rw [← e]; exact km)
 have hs:=(zao (key:=p.2.1) l1 (zq W P2) (fun L q=>d.cl L (by rw [e]; exact List.mem_append_left _ q)) b).trans hb
 obtain ⟨r,hr⟩:=d.get ((WM.all P2 W).trans w1) hkey b
 rw [z3 hr] at hs
 have hbe:((zq (zq W P2) l1).c i).begun=p.1:=(((WM.all P2 W).trans w1).be i).trans hpn.symm
 obtain ⟨t,ht⟩:=zjf (W:=zq (zq W P2) l1) (c:=i) (n:=p.1) (w:=p.2.2) hr hs fun q hq=>by rw [← hbe]; exact zm9 k1.wj hkey hr hs hq
 refine ⟨b,t,?_⟩
 rw [bh]
 exact (w2.h b).la _ ht
theorem RD.closes {l:List Letter}{i:Nat} (ha:∀ p,(W.c i).op=some p→∃ t,Letter.answer i p.1 t∈l):((zq W l).c i).op=none:=by
 cases h:((zq W l).c i).op with
 | none=>rfl
 | some p =>
  obtain ⟨t,ht⟩:=ha p ((WM.all l W).op i p h)
  obtain ⟨l1,l2,-,w1,w2⟩:=su ht W
  exact absurd rfl (zdm (w2.op i p h))
theorem RD.ends (d:RD ks nc m W G P2 Cl) {l:List Letter} (hk:key∈ks) (b:Bool) (ha:(zb (W.h b).known key).st=.owes→Letter.taken (hn b) key ((zb (W.h b).known key).turn + 1)∈l):(zb ((zq W l).h b).known key).st≠.owes:=fun ho=>by
 have e:=((WM.all l W).h b).ow key ho
 have ht:=ha (by rw [← e]; exact ho)
 obtain ⟨l1,l2,-,w1,w2⟩:=su ht W
 obtain ⟨r,hr⟩:=d.get w1 hk b
 have e2:=(w2.h b).ow key ho
 refine zgl (W:=zq W l1) (T:=(zb (W.h b).known key).turn + 1) hr ⟨by rw [← e2]; exact ho,?_⟩
 rw [← e2,e]
end
end Mine
end
section
namespace Mine
noncomputable def k9 (i:Nat) (R:List LRow):List LRow:=R.filter fun r=>decide (r.c=(i:Int))
theorem o4 (i:Nat) (l l':List LRow):k9 i (l ++ l')=k9 i l ++ k9 i l':=List.filter_append ..
theorem zfa {i:Nat}{r:LRow} (h:r.c=(i:Int)):k9 i [r]=[r]:=List.filter_cons_of_pos (decide_eq_true h)
theorem zks {i:Nat}{r:LRow} (h:r.c≠(i:Int)):k9 i [r]=[]:=List.filter_cons_of_neg (by rw [decide_eq_false h]; exact Bool.false_ne_true)
theorem gp {n:Int}{N:Nat}:n∈yz N ↔ 1≤n∧n≤N:=by
 rw [yz,List.mem_map]
 constructor
 ·rintro ⟨k,hk,rfl⟩
  have:=List.mem_range.1 hk
  omega
 ·rintro ⟨h1,h2⟩
  exact ⟨(n - 1).toNat,List.mem_range.2 (by omega),by omega⟩
theorem grow {i N:Nat}{R:List LRow} (U:∀ Q r Rm,R=Q ++ r :: Rm→∀ r'∈Q,¬ (r'.c=r.c∧r'.n=r.n)) (B:∀ r∈R,r.c=(i:Int)→1≤r.n∧r.n≤(N:Int) + 1) :
  ∀ (fr Q:List LRow) (L:Nat),R=Q ++ fr→(k9 i Q).map (·.n)=yz L→N≤L→∃ L',(k9 i R).map (·.n)=yz L'∧N≤L'
 | [],Q,L,e,h,hL=>⟨L,by rw [e,List.append_nil]; exact h,hL⟩
 | r :: fr,Q,L,e,h,hL=>by
  have e':R=(Q ++ [r]) ++ fr:=by rw [e,List.append_assoc]; rfl
  by_cases hc:r.c=(i:Int)
  ·obtain ⟨b1,b2⟩:=B r (by rw [e]; exact List.mem_append_right _ (List.mem_cons_self ..)) hc
   have hn:¬ r.n≤(L:Int):=fun q=>by
    have hm:r.n∈(k9 i Q).map (·.n):=by rw [h]; exact gp.2 ⟨b1,q⟩
    obtain ⟨x,hx,hxn⟩:=List.mem_map.1 hm
    obtain ⟨h1,h2⟩:=List.mem_filter.1 hx
    exact U Q r fr e x h1 ⟨(of_decide_eq_true h2).trans hc.symm,hxn⟩
   refine grow U B fr (Q ++ [r]) (L + 1) e' ?_ (by lia)
   rw [o4,zfa hc,List.map_append,h,g9]
   congr 1
   show [r.n]=_
   rw [show r.n=(L:Int) + 1 by lia]
  ·refine grow U B fr (Q ++ [r]) L e' ?_ hL
   rw [o4,zks hc,List.append_nil]; exact h
set_option genCtorIdx false in
structure WR (ks:List Key) (nc m:Nat) (W:WS) (G:List Call):Prop where
 wk:WK ks nc m W G
 rn:∀ i,i < nc→∃ L,(k9 i W.rows).map (·.n)=yz L∧(W.c i).closed.length≤L
section
variable {ks:List Key}{nc m:Nat}{W W':WS}{o:Option Call}{G:List Call}
theorem zeg (a:WK ks nc m W G) {i:Nat} (hi:i < nc) {r:LRow} (hg:r.call∈G) (hc:r.c=(i:Int)):1≤r.n∧r.n≤((W.c i).closed.length:Int) + (if (W.c i).op.isSome then 1 else 0):=by
 have hm:r.n∈(ownOf i G).map (·.2.1):=List.mem_map.2 ⟨r.call,List.mem_filter.2 ⟨hg,decide_eq_true hc⟩,rfl⟩
 rw [(a.ck i hi).gn] at hm
 obtain ⟨h1,h2⟩:=gp.1 hm
 refine ⟨h1,?_⟩
 split at h2
 ·rename_i q; rw [if_pos q]; lia
 ·rename_i q; rw [if_neg q]; lia
theorem WR.step (a:WR ks nc m W G) (nd:ks.Nodup) (k6:ks.length≤6) (h6:nc≤6) (s:WStep ks nc W o W'):WR ks nc (m + 1) W' (G ++ o.toList):=by
 have w:=a.wk.step nd k6 h6 s
 refine ⟨w,?_⟩
 cases s with
 | same=>exact a.rn
 | post b i p hi ho=>exact a.rn
 | begin i k w' hi ho hk =>
  intro j hj
  obtain ⟨L,h1,h2⟩:=a.rn j hj
  refine ⟨L,h1,?_⟩
  show (if j=i then (⟨(W.c i).begun + 1,some ((W.c i).begun + 1,k,w'),(W.c i).closed⟩:CS) else W.c j).closed.length≤L
  split
  ·rename_i e; rw [e] at h2; exact h2
  ·exact h2
 | came b L hL ha=>exact a.rn
 | answer i n t hi hL =>
  intro j hj
  obtain ⟨L,h1,h2⟩:=a.rn j hj
  refine ⟨L,h1,?_⟩
  show (if j=i then (W.c i).came n t else W.c j).closed.length≤L
  split
  ·rename_i e
   subst e
   unfold CS.came
   split
   ·rename_i p hp
    split
    ·rename_i hpn
     obtain ⟨r,hr,r1,r2,-⟩:=a.wk.pa _ _ _ hL
     have hm:r.n∈(k9 j W.rows).map (·.n):=List.mem_map.2 ⟨r,List.mem_filter.2 ⟨hr,decide_eq_true r1⟩,rfl⟩
     rw [h1,r2,← hpn] at hm
     have h3:=(gp.1 hm).2
     have h4:=(a.wk.ck j hi).co p hp
     have h5:=(a.wk.ck j hi).cb
     rw [hp] at h5
     have h5:(W.c j).begun=((W.c j).closed.length:Int) + 1:=h5
     show ((W.c j).closed ++ [(n,t)]).length≤L
     rw [List.length_append]
     show _ + 1≤_
     lia
    ·exact h2
   ·exact h2
  ·exact h2
 | erase p=>exact a.rn
 | move b k r hr hs hk=>exact a.rn
 | sleep b=>exact a.rn
 | nudge b=>exact a.rn
 | write b =>
  intro j hj
  obtain ⟨L,h1,h2⟩:=a.rn j hj
  refine grow (R:=W.rows ++ (W.h b).fresh) (fun Q r Rm e=>(zqo w.wj e).2.2) (fun r hr hc=>?_) (W.h b).fresh W.rows L rfl h1 h2
  obtain ⟨b1,b2⟩:=zeg a.wk hj ((List.mem_append.1 hr).elim (a.wk.wj.rb r) (a.wk.wj.fb b r)) hc
  refine ⟨b1,?_⟩
  show r.n≤((W.c j).closed.length:Int) + 1
  split at b2 <;> lia
theorem WR.new (nd:ks.Nodup) (nc:Nat):WR ks nc 0 (W0 ks nc) []:=⟨WK.new nd nc,fun i _=>⟨0,rfl,Nat.le_refl _⟩⟩
theorem WR.told (a:WR ks nc m W G) {i:Nat} (hi:i < nc) (ho:(W.c i).op=none):(W.c i).closed=(k9 i W.rows).map (fun r=>(r.n,r.told))∧(ownOf i G).length=(W.c i).closed.length:=by
 obtain ⟨L,h1,h2⟩:=a.rn i hi
 have cn:=(a.wk.ck i hi).cn
 have gn:=(a.wk.ck i hi).gn
 rw [ho] at gn
 have gn:(ownOf i G).map (·.2.1)=yz (W.c i).closed.length:=gn
 have ul:∀ N,(yz N).length=N:=fun N=>by rw [yz,List.length_map,List.length_range]
 have hL:(k9 i W.rows).length=L:=by have:=congrArg List.length h1; rwa [List.length_map,ul] at this
 have hle:L≤(W.c i).closed.length:=by
  cases L with
  | zero=>exact Nat.zero_le _
  | succ L =>
   have hm:((L:Int) + 1)∈(k9 i W.rows).map (·.n):=by rw [h1]; exact gp.2 ⟨by lia,by lia⟩
   obtain ⟨r,hr,hn⟩:=List.mem_map.1 hm
   obtain ⟨q1,q2⟩:=List.mem_filter.1 hr
   have:=(zeg a.wk hi (a.wk.wj.rb r q1) (of_decide_eq_true q2)).2
   rw [ho] at this
   have this:r.n≤((W.c i).closed.length:Int) + 0:=this
   lia
 have at_:∀ {α:Type}{f:α→Int}{l:List α}{N k:Nat} (h:l.map f=yz N) (hk:k < l.length),f l[k]=(k:Int) + 1:=fun {α f l N k} h hk=>by
  have hN:l.length=N:=by have:=congrArg List.length h; rwa [List.length_map,ul] at this
  have e:=congrArg (fun x=>x[k]?) h
  rw [List.getElem?_map,List.getElem?_eq_getElem hk,yz,List.getElem?_map,List.getElem?_range (by lia)] at e
  exact Option.some.inj e
 have hlen:(W.c i).closed.length=((k9 i W.rows).map (fun r=>(r.n,r.told))).length:=by rw [List.length_map]; lia
 refine ⟨List.ext_getElem hlen fun k k1 k2=>?_,by have:=congrArg List.length gn; rwa [List.length_map,ul] at this⟩
 have kr:k < (k9 i W.rows).length:=by rw [List.length_map] at k2; exact k2
 rw [List.getElem_map]
 have n1:=at_ cn k1
 have n2:=at_ h1 kr
 obtain ⟨r,hr,r1,r2,r3⟩:=a.wk.cl i hi _ (List.getElem_mem k1)
 have hrc:r∈k9 i W.rows:=List.mem_filter.2 ⟨hr,decide_eq_true r1⟩
 obtain ⟨j,hj⟩:=List.mem_iff_getElem?.1 hrc
 obtain ⟨jl,hje⟩:=List.getElem?_eq_some_iff.1 hj
 have n3:=at_ h1 jl
 rw [hje,r2,n1] at n3
 have:j=k:=by lia
 subst this
 refine Prod.ext (n1.trans n2.symm) ?_
 show _=(k9 i W.rows)[j].told
 rw [hje]; exact r3.symm
theorem WR.rowed (a:WR ks nc m W G) (ho:∀ i,i < nc→(W.c i).op=none) {g:Call} (hg:g∈G):∃ r∈W.rows,r.call=g:=by
 obtain ⟨-,i,hi,e,-⟩:=a.wk.wj.gk g hg
 have gn:=(a.wk.ck i hi).gn
 rw [ho i hi] at gn
 have gn:(ownOf i G).map (·.2.1)=yz (W.c i).closed.length:=gn
 have hm:g.2.1∈(ownOf i G).map (·.2.1):=List.mem_map.2 ⟨g,List.mem_filter.2 ⟨hg,decide_eq_true e⟩,rfl⟩
 rw [gn,← (a.wk.ck i hi).cn] at hm
 obtain ⟨p,hp,hpn⟩:=List.mem_map.1 hm
 obtain ⟨r,hr,r1,r2,-⟩:=a.wk.cl i hi p hp
 exact ⟨r,hr,a.wk.wj.gu _ (a.wk.wj.rb r hr) _ hg (r1.trans e.symm) (r2.trans hpn)⟩
theorem p0 {α:Type} (f:α→Int) (n:Nat):∀ l:List α,(l.filter fun a=>decide (f a < ((n + 1:Nat):Int))).length=(l.filter fun a=>decide (f a < (n:Int))).length + (l.filter fun a=>decide (f a=(n:Int))).length
 | []=>rfl
 | a :: l=>by
  have ih:=p0 f n l
  rw [List.filter_cons,List.filter_cons,List.filter_cons]
  by_cases h1:f a < (n:Int)
  ·rw [if_pos (decide_eq_true (by lia)),if_pos (decide_eq_true h1),if_neg (by rw [decide_eq_false (by lia)]; exact Bool.false_ne_true),List.length_cons,List.length_cons,ih]; lia
  ·by_cases h2:f a=(n:Int)
   ·rw [if_pos (decide_eq_true (by lia)),if_neg (by rw [decide_eq_false h1]; exact Bool.false_ne_true),if_pos (decide_eq_true h2),List.length_cons,List.length_cons,ih]; lia
   ·rw [if_neg (by rw [decide_eq_false (by lia)]; exact Bool.false_ne_true),if_neg (by rw [decide_eq_false h1]; exact Bool.false_ne_true),if_neg (by rw [decide_eq_false h2]; exact Bool.false_ne_true),ih]
theorem WR.count (a:WR ks nc m W G) (ho:∀ i,i < nc→(W.c i).op=none):W.rows.length=G.length:=by
 have key:∀ n,n≤nc→(W.rows.filter fun r=>decide (r.c < (n:Int))).length=(G.filter fun g=>decide (g.1 < (n:Int))).length:=fun n=>by
  induction n with
  | zero =>
   intro _
   have z1:(W.rows.filter fun r=>decide (r.c < ((0:Nat):Int)))=[]:=List.filter_eq_nil_iff.2 fun r hr q=>by
    obtain ⟨-,j,-,h3,-⟩:=a.wk.wj.gk _ (a.wk.wj.rb r hr)
    have h3:r.c=(j:Int):=h3
    have:=of_decide_eq_true q
    lia
   have z2:(G.filter fun g=>decide (g.1 < ((0:Nat):Int)))=[]:=List.filter_eq_nil_iff.2 fun g hg q=>by
    obtain ⟨-,j,-,h3,-⟩:=a.wk.wj.gk g hg
    have:=of_decide_eq_true q
    lia
   rw [z1,z2]; rfl
  | succ n ih =>
   intro hn
   have t:=a.told (show n < nc by lia) (ho n (by lia))
   have t1:=congrArg List.length t.1
   rw [List.length_map] at t1
   rw [p0 (fun r:LRow=>r.c) n,p0 (fun g:Call=>g.1) n,ih (by lia)]
   have t2:(W.rows.filter fun r=>decide (r.c=(n:Int))).length=(G.filter fun g=>decide (g.1=(n:Int))).length:=t1.symm.trans t.2.symm
   rw [t2]
 have k:=key nc (Nat.le_refl _)
 have all1:(W.rows.filter fun r=>decide (r.c < (nc:Int)))=W.rows:=List.filter_eq_self.2 fun r hr=>by
  obtain ⟨-,j,h2,h3,-⟩:=a.wk.wj.gk _ (a.wk.wj.rb r hr)
  have h3:r.c=(j:Int):=h3
  exact decide_eq_true (by lia)
 have all2:(G.filter fun g=>decide (g.1 < (nc:Int)))=G:=List.filter_eq_self.2 fun g hg=>by
  obtain ⟨-,j,h2,h3,-⟩:=a.wk.wj.gk g hg
  exact decide_eq_true (by lia)
 rw [all1,all2] at k
 exact k
end
end Mine
end
section
namespace Mine
noncomputable def f_World_is_settled:Fn:=⟨1,["self","caller"],[.for_ (.inl (.loc 1)) false (.attr (.loc 0) 10) [.ite (.isC true (.meth (.loc 1) 11 []) .none) [.ret (some (.bool false))] []],.ret (some (.cmp (.bin .add (.prim .len [.meth (.sub (.attr (.loc 0) 9) (.int 0)) 1 []]) (.prim .len [.meth (.sub (.attr (.loc 0) 9) (.int 1)) 1 []])) .eq (.int 0)))]⟩
noncomputable def f_World_one_round:Fn:=⟨1,["self","house","caller","k"],[.for_ (.inl (.loc 1)) true (.int 2) [.expr (.meth (.loc 0) 6 [.loc 1])],.for_ (.inl (.loc 1)) true (.int 2) [.expr (.meth (.loc 0) 8 [.loc 1])],.for_ (.inl (.loc 2)) false (.attr (.loc 0) 10) [.ite (.isC true (.meth (.loc 2) 11 []) .none) [.expr (.bm .append (.attr (.loc 0) 11) [.meth (.loc 2) 10 [.int 0]]),.expr (.bm .append (.attr (.loc 0) 11) [.meth (.loc 2) 10 [.int 1]])] []],.for_ (.inl (.loc 3)) true (.prim .len [.attr (.loc 0) 11]) [.expr (.meth (.loc 0) 21 [.int 0])]]⟩
noncomputable def f_World_settle:Fn:=⟨1,["self","rounds"],[.assign 1 (.int 0),.while_ (.not (.meth (.loc 0) 26 [])) [.expr (.meth (.loc 0) 27 []),.assign 1 (.bin .add (.loc 1) (.int 1))],.ret (some (.loc 1))]⟩
set_option genCtorIdx false in
structure SetP (P:Prog):Prop where
 iss:P.fns 62=some f_World_is_settled
 rou:P.fns 63=some f_World_one_round
 set:P.fns 64=some f_World_settle
 owe:P.fns 22=some f_House_owes
 w26:P.meths 0 26=some 62
 w27:P.meths 0 27=some 63
 w28:P.meths 0 28=some 64
noncomputable def pe (W:WS):Prop:=(∀ i,i < W.nc→(W.c i).op=none)∧∀ b,(W.h b).owes=[]
noncomputable def Nil (_:Lbl):Prop:=False
theorem Fr.nw {s t:MS} (f:Fr Nil s t):Fr NW s t:=f.mono fun _ q=>q.elim
theorem Fr.nwp {s t:MS} (f:Fr Nil s t):Fr NWp s t:=f.mono fun _ q=>q.elim
noncomputable def wr (b:Bool) (W:WS):WS:={ W with h:=upd W.h b (W.h b).write,post:=W.post ++ (W.h b).laid,rows:=W.rows ++ (W.h b).fresh }
noncomputable def nd (b:Bool) (W:WS):WS:={ W with post:=W.post ++ (W.h b).nudge }
noncomputable def yg (i:Nat):Option (Int×Key×W)→List Letter
 | some p=>[.call (hn false) i p.1 p.2.1 p.2.2,.call (hn true) i p.1 p.2.1 p.2.2]
 | none=>[]
noncomputable def qu (W:WS):Nat→List Letter
 | 0=>[]
 | n + 1=>qu W n ++ yg n (W.c n).op
noncomputable def wr2 (W:WS):WS:=wr true (wr false W)
noncomputable def p2 (W:WS):List Letter:=(nd true (nd false (wr2 W))).post
noncomputable def rnd (W:WS):WS:={ zq (wr2 W) (p2 W ++ qu (wr2 W) W.nc) with post:=[] }
noncomputable def tot (W:WS):Nat:=W.post.length + (W.h false).laid.length + (W.h true).laid.length
theorem tm (W:WS):∀ j,(qu W j).length≤2 * j
 | 0=>Nat.le_refl _
 | j + 1=>by
  show (qu W j ++ yg j (W.c j).op).length≤2 * j + 2
  rw [List.length_append]
  exact Nat.add_le_add (tm W j) (by cases (W.c j).op <;> exact of_decide_eq_true rfl)
section
variable {P:Prog} (H:WorldP P) (HP:HouseP P) (D:DeedP P) (SP:SetP P) {s u:MS}{ks:List Key}{W:WS}{x:Bool→HIx}{nc m:Nat}{G:List Call}
include H HP SP
omit H HP SP in
noncomputable def zpf (W:WS) (s:MS) (r:List Nat) (_:Option V) (t:MS):Prop:=s=t∧(∀ i∈r,i < W.nc)∧∀ i,i < W.nc→(W.c i).op=none∨i∈r
omit HP SP in
theorem zii (n:Nat) (A:WAt s ks W x) {i:Nat}{r:List Nat}{y:Option V} (h:zpf W s (i :: r) y s) {Q:Fl×Loc→MS→Prop} (kr:¬ pe W→Q (.ret (.bool false),[some (.ref (1,0)),some (.ref (3,i))]) s) (kn:zpf W s r (some (.ref (3,i))) s→Q (.next,[some (.ref (1,0)),some (.ref (3,i))]) s) :
  OkR (exs P (run P (n + 2)) (n + 2) [.ite (.isC true (.meth (.loc 1) 11 []) .none) [.ret (some (.bool false))] []] [some (.ref (1,0)),some (.ref (3,i))] s) Q:=by
 obtain ⟨-,h1,h2⟩:=h
 have hi:=h1 i (List.mem_cons_self ..)
 have ea:=zr (P:=P) (a:=.loc 1) (es:=[]) (l:=[some (.ref (1,0)),some (.ref (3,i))]) (x:=.ref (3,i)) (vs:=[]) rfl ((zg (A.co i hi)).trans H.c11) rfl (vo H (n + 1) A hi)
 cases hop:(W.c i).op with
 | none =>
  rw [hop] at ea
  exact zt (t:=false) (yu (g:=true) (t:=true) ea (decide_eq_true rfl)) (zi (zz (kn ⟨rfl,fun j hj=>h1 j (List.mem_cons_of_mem _ hj),fun j hj=>(h2 j hj).elim .inl fun q=>(List.mem_cons.1 q).elim (fun e=>.inl (e ▸ hop)) .inr⟩)))
 | some p =>
  rw [hop] at ea
  exact zt (t:=true) (yu (g:=true) (t:=false) ea (decide_eq_false nofun)) (qa rfl (kr fun q=>nomatch hop.symm.trans (q.1 i hi)))
omit SP in
theorem zn9 (SP:SetP P) (n:Nat) (A:WAt s ks W x) (K:KeysFine ks) (a:WI ks nc m W) (hm:m < 1000000) {z:Option V} :
  ∃ t,ev P (run P (n + 2)) (.cmp (.bin .add (.prim .len [.meth (.sub (.attr (.loc 0) 9) (.int 0)) 1 []]) (.prim .len [.meth (.sub (.attr (.loc 0) 9) (.int 1)) 1 []])) .eq (.int 0)) [some (.ref (1,0)),z] s=.ok (.bool (decide (((W.h false).owes.length:Int) + ((W.h true).owes.length:Int)=0))) t∧Fr Nil s t:=by
 have f0:Fr Nil s (s.new 14 (.list ((W.h false).owes.map .str))):=(Fr.refl _ _).new _ _
 have A0:=A.step f0.nw
 have nd:∀ b,((W.h b).known.map (·.1)).Nodup:=fun b=>by rw [(a.hi b).hk]; exact K.nd
 have l:∀ (t:MS) (ks:List Key),zji (.ref (14,t.cnt 14)) (t.new 14 (.list (ks.map .str)))=.ok (.int (ks.length:Nat)) (t.new 14 (.list (ks.map .str))):=fun t ks=>(bg (jm (zy _ _ _))).trans (by rw [List.length_map])
 exact ⟨_,xg (y:=.int 0) (vp (yn (z5 (zr (x:=.ref (2,hx false)) (vs:=[]) (gj (b:=false) A rfl rfl) ((zg (A.hh.at_ false).o).trans HP.mowes) rfl (nk HP rfl SP.owe (n + 1) (A.hh.at_ false) (hz a K hm false) (nd false))) rfl) (l _ _)) (yn (z5 (zr (x:=.ref (2,hx true)) (vs:=[]) (gj (b:=true) A0 rfl rfl) ((zg (A0.hh.at_ true).o).trans HP.mowes) rfl (nk HP rfl SP.owe (n + 1) (A0.hh.at_ true) (hz a K hm true) (nd true))) rfl) (l _ _)) rfl) rfl rfl,f0.new _ _⟩
omit H HP SP in
theorem two_nil {a b:List Key}:decide ((a.length:Int) + (b.length:Int)=0)=true ↔ a=[]∧b=[]:=by
 rw [decide_eq_true_iff,← List.length_eq_zero_iff,← List.length_eq_zero_iff]; omega
theorem zac (n:Nat) (A:WAt s ks W x) (K:KeysFine ks) (a:WI ks nc m W) (hm:m < 1000000) :
  OkR (run P (n + 3) 62 [.ref (1,0)] s) fun v t=>∃ b:Bool,v=.bool b∧(b=true ↔ pe W)∧Fr Nil s t:=by
 refine zl SP.iss rfl (vx (v:=.lst (zk W.nc)) (zu rfl (qd A.o rfl)) rfl rfl (ku (fun (i:Nat)=>V.ref (3,i)) (fun z=>[some (.ref (1,0)),z]) (zpf W s) (fun i r y t h=>⟨rfl,?_⟩) (fun y t h=>⟨rfl,?_⟩) (List.range W.nc) none s ⟨rfl,fun i hi=>List.mem_range.1 hi,fun i hi=>.inr (List.mem_range.2 hi)⟩))
 ·cases h.1
  exact zii H n A h (fun q=>⟨false,rfl,⟨fun q=>(nomatch q),fun z=>(q z).elim⟩,.refl _ _⟩) fun q=>⟨_,rfl,q⟩
 ·cases h.1
  rw [vd]
  obtain ⟨t,e,f⟩:=zn9 H HP SP n A K a hm (z:=y)
  refine qa e ⟨_,rfl,two_nil.trans ⟨fun q=>⟨fun i hi=>(h.2.2 i hi).resolve_right fun z=>(nomatch z),fun b=>?_⟩,fun q=>⟨q.2 false,q.2 true⟩⟩,f⟩
  cases b
  ·exact q.1
  ·exact q.2
include D
omit SP in
theorem zhs (n:Nat) {L:Letter}{l:List Letter} (A:WAt u ks { W with post:=L :: l } x) (a:WI ks nc m { W with post:=L :: l }) (K:KeysFine ks) (h6:nc≤6) (hm:m < 1000000) :
  OkR (run P (n + 5) 49 [.ref (1,0),.int 0] u) fun v t=>v=.none∧WAt t ks { bring W L with post:=l } x∧Fr NWp u t:=by
 have hL:L∈L :: l:=List.mem_cons_self ..
 have hp:0 < ({ W with post:=L :: l }:WS).post.length:=Nat.succ_pos _
 rcases pi a h6 hL with ⟨b,h1,h2⟩ | ⟨i,num,told,hi,e⟩
 ·rw [kc h1]
  exact u3 H D.han n A hp (W':={ W with post:=l,h:=upd W.h b ((W.h b).came L) }) fun t At=>uu H HP n At h1 (hz a K hm b) (a.hi b).kk h2
 ·subst e
  rw [u6]
  exact u3 H D.han n A hp (W':={ W with post:=l,c:=vw W.c i ((W.c i).came num told) }) fun t At=>ua H D.cca D.c2 n At (by rw [← a.nc_] at hi; exact hi) num told (by have:(W.c i).closed.length≤m:=(a.co i hi).2; show (W.c i).closed.length < _; lia)
noncomputable abbrev k7 (a b c:Option V):Loc:=[some (.ref (1,0)),a,b,c]
omit H HP D SP in
theorem zer {C:Calls}{n:Nat}{body r:List S}{z:Option V}{Q:Fl×Loc→MS→Prop}{R1 R2:MS→Prop}
  (h0:OkR (exs P C n body (k7 (some (.int (hn false))) none none) s) fun p t=>p=(.next,k7 (some (.int (hn false))) none none)∧R1 t)
  (h1:∀ t,R1 t→OkR (exs P C n body (k7 (some (.int (hn true))) none none) t) fun p t=>p=(.next,k7 (some (.int (hn true))) none none)∧R2 t)
  (k:∀ z t,R2 t→OkR (exs P C n r (k7 z none none) t) Q):OkR (exs P C n (.for_ (.inl (.loc 1)) true (.int 2) body :: r) (k7 z none none) s) Q:=by
 refine vx (v:=.int 2) (s':=s) (xs:=[false,true].map fun b=>.int (hn b)) rfl rfl rfl (ku (fun b=>V.int (hn b)) (fun y=>k7 y none none) (fun l _ t=>(l=[false,true]∧t=s)∨(l=[true]∧R1 t)∨(l=[]∧R2 t)) (fun b l y t h=>⟨rfl,?_⟩) (fun y t h=>⟨rfl,?_⟩) _ _ _ (.inl ⟨rfl,rfl⟩))
 ·rcases h with ⟨e,rfl⟩ | ⟨e,q⟩ | ⟨e,-⟩
  ·cases e
   show OkR (exs P C n body (k7 (some (.int (hn false))) none none) t) _
   refine qr h0 fun p t q=>?_
   rw [q.1]; exact ⟨_,rfl,.inr (.inl ⟨rfl,q.2⟩)⟩
  ·cases e
   show OkR (exs P C n body (k7 (some (.int (hn true))) none none) t) _
   refine qr (h1 t q) fun p t q=>?_
   rw [q.1]; exact ⟨_,rfl,.inr (.inr ⟨rfl,q.2⟩)⟩
  ·cases e
 ·rcases h with ⟨e,-⟩ | ⟨e,-⟩ | ⟨-,q⟩
  ·cases e
  ·cases e
  ·exact k y t q
omit SP in
theorem tf (n:Nat) (A:WAt s ks W x) (a:WI ks nc m W) (K:KeysFine ks) (hm:m < 1000000) (b:Bool):OkR (exs P (run P (n + 5)) (n + 5) [.expr (.meth (.loc 0) 6 [.loc 1])] (k7 (some (.int (hn b))) none none) s) fun p t=>p=(.next,k7 (some (.int (hn b))) none none)∧(∃ x',WAt t ks (wr b W) x')∧Fr NWp s t:=by
 have hl:=zbv a b
 refine j3 (jn (x:=.ref (1,0)) (vs:=[.int (hn b)]) rfl ((zg A.o).trans D.w6) rfl (f5 H HP D.hwr D.h6 D.wri (n + 2) A b (hz a K hm b) (by omega) (by omega))) fun v u q=>zz ⟨rfl,q.2⟩
omit SP in
theorem zic (n:Nat) {r:List S}{Q:Fl×Loc→MS→Prop} (A:WAt s ks W x) (a:WI ks nc m W) (K:KeysFine ks) (h6:nc≤6) (hm:m < 900000)
  (k:∀ z x' t,WAt t ks (wr2 W) x'→Fr NWp s t→OkR (exs P (run P (n + 5)) (n + 5) r (k7 z none none) t) Q) :
  OkR (exs P (run P (n + 5)) (n + 5) (.for_ (.inl (.loc 1)) true (.int 2) [.expr (.meth (.loc 0) 6 [.loc 1])] :: r) (k7 none none none) s) Q :=
 zer (R1:=fun t=>(∃ x',WAt t ks (wr false W) x')∧Fr NWp s t) (R2:=fun t=>(∃ x',WAt t ks (wr2 W) x')∧Fr NWp s t) (tf H HP D n A a K (Nat.lt_trans hm (by decide)) false)
  (fun t ⟨⟨x1,A1⟩,f1⟩=>qr (tf H HP D n A1 (a.write false) K (Nat.lt_of_le_of_lt (Nat.succ_le_of_lt hm) (by decide)) true) fun p u q=>⟨q.1,q.2.1,f1.trans q.2.2⟩) fun z t ⟨⟨x',A'⟩,f⟩=>k z x' t A' f
omit SP in
theorem ox (n:Nat) (A:WAt s ks W x) (a:WI ks nc m W) (K:KeysFine ks) (hm:m < 1000000) (b:Bool):OkR (exs P (run P (n + 5)) (n + 5) [.expr (.meth (.loc 0) 8 [.loc 1])] (k7 (some (.int (hn b))) none none) s) fun p t=>p=(.next,k7 (some (.int (hn b))) none none)∧WAt t ks (nd b W) x∧Fr NWp s t:=by
 obtain ⟨u,e,q⟩:=d7 H HP D.hnu D.h8 D.nud (n + 2) A b (hz a K hm b) (by rw [(a.hi b).hw]; exact K.nd) (by have:=bf (a.hi b); have:=K.six; have:=a.pl; omega)
 exact qc (zr (x:=.ref (1,0)) (vs:=[.int (hn b)]) rfl ((zg A.o).trans D.w8) rfl e) (zz ⟨rfl,q⟩)
omit SP in
theorem zkc (n:Nat) {r:List S}{Q:Fl×Loc→MS→Prop}{z:Option V} (A:WAt s ks W x) (a:WI ks nc m W) (K:KeysFine ks) (h6:nc≤6) (hm:m < 900000)
  (k:∀ z t,WAt t ks (nd true (nd false W)) x→Fr NWp s t→OkR (exs P (run P (n + 5)) (n + 5) r (k7 z none none) t) Q) :
  OkR (exs P (run P (n + 5)) (n + 5) (.for_ (.inl (.loc 1)) true (.int 2) [.expr (.meth (.loc 0) 8 [.loc 1])] :: r) (k7 z none none) s) Q :=
 zer (R1:=fun t=>WAt t ks (nd false W) x∧Fr NWp s t) (R2:=fun t=>WAt t ks (nd true (nd false W)) x∧Fr NWp s t) (ox H HP D n A a K (Nat.lt_trans hm (by decide)) false)
  (fun t ⟨A1,f1⟩=>qr (ox H HP D n A1 (a.nudge false K.nd K.six) K (Nat.lt_of_le_of_lt (Nat.add_le_add_right (Nat.le_of_lt hm) _) (by decide)) true) fun p u q=>⟨q.1,q.2.1,f1.trans q.2.2⟩) fun z t ⟨A',f⟩=>k z t A' f
omit HP D SP in
theorem ou (n:Nat) {r:List S}{Q:Fl×Loc→MS→Prop}{z:Option V}{i:Nat}{p:Int×Key×Mine.W} (b:Bool) (A:WAt u ks W x) (hi:i < W.nc) (hop:(W.c i).op=some p) (hl:W.post.length < 16777216)
  (k:∀ t,WAt t ks { W with post:=W.post ++ [.call (hn b) i p.1 p.2.1 p.2.2] } x→Fr NWp u t→OkR (exs P (run P (n + 5)) (n + 5) r (k7 z (some (.ref (3,i))) none) t) Q) :
  OkR (exs P (run P (n + 5)) (n + 5) (.expr (.bm .append (.attr (.loc 0) 11) [.meth (.loc 2) 10 [.int (hn b)]]) :: r) (k7 z (some (.ref (3,i))) none) u) Q:=by
 have l0:=uy H (n + 4) A hi hop b
 refine qc (v:=.none) (p3 (x:=.ref (9,0)) (vs:=[qp (.call (hn b) i p.1 p.2.1 p.2.2)]) (s2:=u) (zu rfl (qd A.o rfl)) (xr A.po) (z5 (zr (x:=.ref (3,i)) (vs:=[.int (hn b)]) rfl ((zg (A.co i hi)).trans H.c10) rfl l0) rfl) (kb _ _ _ _ A.po (by rw [List.length_map]; exact hl))) ?_
 exact k _ (A.post1 (.call (hn b) i p.1 p.2.1 p.2.2)) ((Fr.refl NWp u).put (l:=(9,0)) (of_decide_eq_true (p:=9 < 11) rfl) _)
omit HP D SP in
theorem zmw (n:Nat) {r:List S}{Q:Fl×Loc→MS→Prop}{z:Option V}{i:Nat} (A:WAt u ks W x) (hi:i < W.nc) (hl:W.post.length < 16000000)
  (k:∀ t,WAt t ks { W with post:=W.post ++ yg i (W.c i).op } x→Fr NWp u t→OkR (exs P (run P (n + 5)) (n + 5) r (k7 z (some (.ref (3,i))) none) t) Q) :
  OkR (exs P (run P (n + 5)) (n + 5) (.ite (.isC true (.meth (.loc 2) 11 []) .none) [.expr (.bm .append (.attr (.loc 0) 11) [.meth (.loc 2) 10 [.int 0]]),.expr (.bm .append (.attr (.loc 0) 11) [.meth (.loc 2) 10 [.int 1]])] [] :: r) (k7 z (some (.ref (3,i))) none) u) Q:=by
 have ea:ev P (run P (n + 5)) (.meth (.loc 2) 11 []) (k7 z (some (.ref (3,i))) none) u=.ok (opV (W.c i).op) u:=zr (x:=.ref (3,i)) (vs:=[]) rfl ((zg (A.co i hi)).trans H.c11) rfl (vo H (n + 4) A hi)
 cases hop:(W.c i).op with
 | none =>
  rw [hop] at ea k
  refine zt (t:=false) (s':=u) (yu (g:=true) (t:=true) ea (decide_eq_true rfl)) (zi (k u ?_ (.refl _ _)))
  rw [show W.post ++ yg i none=W.post from List.append_nil _]; exact A
 | some p =>
  rw [hop] at ea k
  refine zt (t:=true) (s':=u) (yu (g:=true) (t:=false) ea (decide_eq_false nofun)) ?_
  refine ou H n false A hi hop (Nat.lt_trans hl (by decide)) fun t A1 f1=>?_
  refine ou H n (W:={ W with post:=W.post ++ [.call (hn false) i p.1 p.2.1 p.2.2] }) true A1 hi hop (by show (W.post ++ [_]).length < _; rw [List.length_append]; exact Nat.lt_trans (Nat.succ_lt_succ hl) (by decide)) fun t2 A2 f2=>zi (k t2 ?_ (f1.trans f2))
  rw [show W.post ++ yg i (some p)=W.post ++ [.call (hn false) i p.1 p.2.1 p.2.2] ++ [.call (hn true) i p.1 p.2.1 p.2.2] from (List.append_assoc W.post [.call (hn false) i p.1 p.2.1 p.2.2] [.call (hn true) i p.1 p.2.1 p.2.2]).symm]
  exact A2
omit H HP D SP in
noncomputable def zvt (ks:List Key) (W:WS) (x:Bool→HIx) (s:MS) (r:List Nat) (_:Option V) (t:MS):Prop:=∃ i j,i + j=W.nc∧r=List.range' i j∧WAt t ks { W with post:=W.post ++ qu W i } x∧Fr NWp s t
omit H HP D SP in
theorem zhl {i j:Nat} (hz:W.post.length≤8000000) (h6:W.nc≤6) (hij:i + j=W.nc):(W.post ++ qu W i).length < 16000000:=by
 have:=tm W i
 rw [List.length_append]; omega
omit HP D SP in
theorem zlr (n:Nat) {r:List S}{Q:Fl×Loc→MS→Prop}{z:Option V} (A:WAt s ks W x) (hz:W.post.length≤8000000) (h6:W.nc≤6)
  (k:∀ y t,WAt t ks { W with post:=W.post ++ qu W W.nc } x→Fr NWp s t→OkR (exs P (run P (n + 5)) (n + 5) r (k7 z y none) t) Q) :
  OkR (exs P (run P (n + 5)) (n + 5) (.for_ (.inl (.loc 2)) false (.attr (.loc 0) 10) [.ite (.isC true (.meth (.loc 2) 11 []) .none) [.expr (.bm .append (.attr (.loc 0) 11) [.meth (.loc 2) 10 [.int 0]]),.expr (.bm .append (.attr (.loc 0) 11) [.meth (.loc 2) 10 [.int 1]])] []] :: r) (k7 z none none) s) Q:=by
 refine vx (v:=.lst (zk W.nc)) (zu rfl (qd A.o rfl)) rfl rfl (ku (fun (i:Nat)=>V.ref (3,i)) (fun y=>k7 z y none) (zvt ks W x s) (fun v r y t q=>⟨rfl,?_⟩) (fun y t q=>⟨rfl,?_⟩) (List.range W.nc) none s ⟨0,W.nc,Nat.zero_add _,List.range_eq_range',by rw [show W.post ++ qu W 0=W.post from List.append_nil _]; exact A,.refl _ _⟩)
 ·obtain ⟨i,j,hij,hrem,At,f⟩:=q
  cases j with
  | zero=>cases hrem
  | succ j =>
  obtain ⟨rfl,rfl⟩:=List.cons.inj (hrem:v :: r=i :: List.range' (i + 1) j)
  refine zmw H n (W:={ W with post:=W.post ++ qu W v }) (i:=v) At (Nat.lt_of_lt_of_le (Nat.lt_add_of_pos_right (Nat.succ_pos j)) (Nat.le_of_eq hij)) (zhl hz h6 hij) fun t2 A2 f2=>zz ⟨_,rfl,v + 1,j,(Nat.succ_add_eq_add_succ v j).trans hij,rfl,?_,f.trans f2⟩
  rw [show W.post ++ qu W (v + 1)=W.post ++ qu W v ++ yg v (W.c v).op from (List.append_assoc ..).symm]
  exact A2
 ·obtain ⟨i,j,hij,hrem,At,f⟩:=q
  cases j with
  | succ j=>cases hrem
  | zero =>
   cases (show i=W.nc from hij)
   exact k y t At f
omit H HP D SP in
theorem zgu {l l1 l2:List Letter} (e:l=l1 ++ l2) (hm:m + 2 * l.length < 900000):m + 2 * l1.length < 1000000:=by
 rw [e,List.length_append] at hm; omega
omit H HP D SP in
noncomputable def zu8 (ks:List Key) (W:WS) (x:Bool→HIx) (s:MS) (l:List Letter) (r:List Nat) (_:Option V) (t:MS):Prop:=∃ l1 l2,l=l1 ++ l2∧r.length=l2.length∧WAt t ks { zq W l1 with post:=l2 } x∧Fr NWp s t
omit SP in
theorem zkf (n:Nat) {l:List Letter}{Q:Fl×Loc→MS→Prop}{z y:Option V} (A:WAt s ks { W with post:=l } x) (a:WK ks nc m { W with post:=l } G) (K:KeysFine ks) (h6:nc≤6) (hm:m + 2 * l.length < 900000)
  (k:∀ c t,WAt t ks { zq W l with post:=[] } x→Fr NWp s t→Q (.next,k7 z y c) t) :
  OkR (exs P (run P (n + 5)) (n + 5) [.for_ (.inl (.loc 3)) true (.prim .len [.attr (.loc 0) 11]) [.expr (.meth (.loc 0) 21 [.int 0])]] (k7 z y none) s) Q:=by
 have hll:l.length < 900000:=by lia
 refine vx (v:=.int (l.length:Nat)) (s':=s) (xs:=(List.range l.length).map fun (k:Nat)=>V.int k) (yn (z5 (zu rfl (qd A.o rfl)) rfl) ((bg (jm A.po)).trans (by rw [List.length_map]))) ((j8 s _ (by lia) (by lia)).trans (by rw [Int.toNat_natCast])) rfl
  (ku (fun (k:Nat)=>V.int k) (fun c=>k7 z y c) (zu8 ks W x s l) (fun v r c t q=>⟨rfl,?_⟩) (fun c t q=>⟨rfl,?_⟩) (List.range l.length) none s ⟨[],l,rfl,List.length_range,A,.refl _ _⟩)
 ·obtain ⟨l1,l2,e,hrem,At,f⟩:=q
  cases l2 with
  | nil=>cases hrem
  | cons L l2 =>
  have a1:=WK.brings K.nd K.six h6 (L :: l2) l1 W m (by rw [← e]; exact a)
  refine j3 (jn (x:=.ref (1,0)) (vs:=[.int 0]) (s2:=t) rfl ((zg At.o).trans D.w21) rfl (zhs H HP D n At a1.wj.wi K h6 (zgu e hm))) fun _ u q=>zz ⟨_,rfl,l1 ++ [L],l2,by rw [e,List.append_assoc]; rfl,Nat.succ.inj hrem,?_,f.trans q.2.2⟩
  rw [bh]
  exact q.2.1
 ·obtain ⟨l1,l2,e,hrem,At,f⟩:=q
  cases l2 with
  | cons=>cases hrem
  | nil =>
   cases e.trans (List.append_nil _)
   exact k c t At f
end
end Mine
end
section
namespace Mine
section
variable {ks:List Key}{nc m:Nat}{W W':WS}{G:List Call}
theorem zaz (h:HS) (L:Letter):(h.came L).laid.length≤h.laid.length + 1:=by
 have sn:∀ {l:List Letter}{a:Letter},(l ++ [a]).length≤l.length + 1:=fun {l a}=>by rw [List.length_append]; exact Nat.le_refl _
 cases L with
 | answer=>exact Nat.le_succ _
 | call hh c n k w =>
  cases hk:z7 k h.known with
  | none=>rw [jq hk]; exact Nat.le_succ _
  | some r =>
   rw [jk hk]
   split
   ·unfold HS.called
    split
    ·split
     ·exact Nat.le_succ _
     ·split
      ·exact sn
      ·exact sn
    ·exact sn
   ·exact Nat.le_succ _
 | parcel hh k T a ms =>
  cases hk:z7 k h.known with
  | none=>rw [jg hk]; exact Nat.le_succ _
  | some r=>rw [jb hk]; exact sn
 | taken hh k T =>
  cases hk:z7 k h.known with
  | none=>rw [jo hk]; exact Nat.le_succ _
  | some r =>
   rw [ji hk]
   split
   ·exact Nat.le_succ _
   ·exact Nat.le_succ _
noncomputable def g7 (W:WS):Nat:=(W.h false).laid.length + (W.h true).laid.length
theorem zc6 (W:WS) (L:Letter):g7 (bring W L)≤g7 W + 1:=by
 have house:∀ b,g7 { W with h:=upd W.h b ((W.h b).came L) }≤g7 W + 1:=fun b=>m9 (f:=W.h) b (fun h=>h.laid.length) (zaz _ _)
 cases L with
 | answer=>exact Nat.le_succ _
 | call=>exact house _
 | parcel=>exact house _
 | taken=>exact house _
theorem md:∀ (l:List Letter) (W:WS),g7 (zq W l)≤g7 W + l.length
 | [],W=>Nat.le_refl _
 | L :: l,W=>by
  have h1:=md l (bring W L)
  have h2:=zc6 W L
  show g7 (zq (bring W L) l)≤_
  rw [List.length_cons]; lia
theorem WR.bring {L:Letter}{l:List Letter} (a:WR ks nc m { W with post:=L :: l } G) (nd:ks.Nodup) (k6:ks.length≤6) (h6:nc≤6):WR ks nc (m + 2) { Mine.bring W L with post:=l } G:=by
 have k:=WK.bring a.wk nd k6 h6
 have hL:L∈L :: l:=List.mem_cons_self ..
 have eG:G ++ (none:Option Call).toList=G:=List.append_nil G
 have ho:=a.wk.wj.wi.po L hL
 have house:∀ b,x6 b L→WR ks nc (m + 2) { Mine.bring W L with post:=l } G:=fun b hb=>by
  have s1:=(a.step nd k6 h6 (.came b L hL hb)).step nd k6 h6 (.erase 0)
  rw [eG,eG] at s1
  rw [kc hb]
  exact s1
 cases L with
 | answer c n t =>
  obtain ⟨i,hi,rfl⟩:=ho
  have s1:=(a.step nd k6 h6 (.answer i n t hi hL)).step nd k6 h6 (.erase 0)
  rw [eG,eG] at s1
  rw [u6]
  exact s1
 | call=>obtain ⟨⟨b,rfl⟩,-⟩:=ho; exact house b rfl
 | parcel=>obtain ⟨⟨b,rfl⟩,-⟩:=ho; exact house b rfl
 | taken=>obtain ⟨⟨b,rfl⟩,-⟩:=ho; exact house b rfl
theorem WR.brings (nd:ks.Nodup) (k6:ks.length≤6) (h6:nc≤6):∀ (l:List Letter) (W:WS) (m:Nat),WR ks nc m { W with post:=l } G→WR ks nc (m + 2 * l.length) { zq W l with post:=[] } G
 | [],W,m,a=>a
 | L :: l,W,m,a=>by
  have a1:=WR.brings nd k6 h6 l (Mine.bring W L) (m + 2) (WR.bring a nd k6 h6)
  rw [List.length_cons,show m + 2 * (l.length + 1)=m + 2 + 2 * l.length by lia]
  exact a1
theorem fy (e:W'.c=W.c):∀ j,qu W' j=qu W j
 | 0=>rfl
 | j + 1=>by
  show qu W' j ++ yg j (W'.c j).op=qu W j ++ yg j (W.c j).op
  rw [fy e j,e]
theorem f6 (W:WS):∀ j,(qu W j).length≤2 * j
 | 0=>Nat.le_refl _
 | j + 1=>by
  have ih:=f6 W j
  show (qu W j ++ yg j (W.c j).op).length≤_
  rw [List.length_append]
  have:(yg j (W.c j).op).length≤2:=by cases (W.c j).op <;> exact of_decide_eq_true rfl
  lia
theorem mn (W:WS):∀ j,∀ L∈qu W j,∃ h c n k w,L=Letter.call h c n k w
 | 0,L,q=>(List.not_mem_nil q).elim
 | j + 1,L,q=>by
  rcases List.mem_append.1 (show L∈qu W j ++ yg j (W.c j).op from q) with q | q
  ·exact mn W j L q
  ·cases hop:(W.c j).op with
   | none=>rw [hop] at q; exact (List.not_mem_nil q).elim
   | some p =>
    rw [hop] at q
    rcases List.mem_cons.1 (show L∈[_,_] from q) with rfl | q
    ·exact ⟨_,_,_,_,_,rfl⟩
    ·cases List.mem_singleton.1 q; exact ⟨_,_,_,_,_,rfl⟩
theorem cc {i:Nat}{p:Int×Key×Mine.W} (hp:(W.c i).op=some p) (b:Bool):∀ j,i < j→Letter.call (hn b) i p.1 p.2.1 p.2.2∈qu W j
 | 0,h=>absurd h (Nat.not_lt_zero i)
 | j + 1,h=>by
  show _∈qu W j ++ yg j (W.c j).op
  by_cases e:i=j
  ·subst e
   rw [hp]
   refine List.mem_append_right _ ?_
   cases b
   ·exact List.mem_cons_self ..
   ·exact List.mem_cons_of_mem _ (List.mem_singleton.2 rfl)
  ·exact List.mem_append_left _ (cc hp b j (by lia))
theorem WR.posts (a:WR ks nc m W G) (nd:ks.Nodup) (k6:ks.length≤6) (h6:nc≤6):∀ j,j≤nc→WR ks nc (m + 2 * j) { W with post:=W.post ++ qu W j } G
 | 0,_=>by
  rw [show W.post ++ qu W 0=W.post from List.append_nil _]; exact a
 | j + 1,hj=>by
  have ih:=WR.posts a nd k6 h6 j (by lia)
  have eG:G ++ (none:Option Call).toList=G:=List.append_nil G
  rw [show qu W (j + 1)=qu W j ++ yg j (W.c j).op from rfl,← List.append_assoc,show m + 2 * (j + 1)=m + 2 * j + 1 + 1 by lia]
  cases hop:(W.c j).op with
  | none =>
   have s1:=(ih.step nd k6 h6 .same).step nd k6 h6 .same
   rw [eG,eG] at s1
   rw [show W.post ++ qu W j ++ yg j none=W.post ++ qu W j from List.append_nil _]
   exact s1
  | some p =>
   have s1:=(ih.step nd k6 h6 (.post false j p (by lia) hop)).step nd k6 h6 (.post true j p (by lia) hop)
   rw [eG,eG] at s1
   have e:W.post ++ qu W j ++ yg j (some p)=W.post ++ qu W j ++ [.call (hn false) j p.1 p.2.1 p.2.2] ++ [.call (hn true) j p.1 p.2.1 p.2.2]:=(List.append_assoc (W.post ++ qu W j) [.call (hn false) j p.1 p.2.1 p.2.2] [.call (hn true) j p.1 p.2.1 p.2.2]).symm
   rw [e]
   exact s1
noncomputable def all (W:WS):List Letter:=p2 W ++ qu (wr2 W) W.nc
theorem WR.ready (a:WR ks nc m W G) (nd':ks.Nodup) (k6:ks.length≤6) (h6:nc≤6):WR ks nc (m + 16) { wr2 W with post:=all W } G:=by
 have eG:G ++ (none:Option Call).toList=G:=List.append_nil G
 have s1:=(((a.step nd' k6 h6 (.write false)).step nd' k6 h6 (.write true)).step nd' k6 h6 (.nudge false)).step nd' k6 h6 (.nudge true)
 rw [eG,eG,eG,eG] at s1
 have s1:WR ks nc (m + 4) (nd true (nd false (wr2 W))) G:=s1
 have s2:=WR.posts s1 nd' k6 h6 nc (Nat.le_refl _)
 rw [fy (W:=wr2 W) (W':=nd true (nd false (wr2 W))) rfl] at s2
 have e:W.nc=nc:=a.wk.wj.wi.nc_
 have s3:∀ k,WR ks nc (m + 4 + 2 * nc + k) { wr2 W with post:=all W } G:=fun k=>by
  induction k with
  | zero=>rw [all,e]; exact s2
  | succ k ih=>have:=ih.step nd' k6 h6 .same; rw [eG] at this; exact this
 have:=s3 (12 - 2 * nc)
 rwa [show m + 4 + 2 * nc + (12 - 2 * nc)=m + 16 by omega] at this
theorem zbk (W:WS) (b:Bool):((wr2 W).h b).known=(W.h b).known:=by cases b <;> rfl
theorem dy (W:WS) (b:Bool):((wr2 W).h b).written=(W.h b).known:=by cases b <;> rfl
theorem zpy (W:WS) (b:Bool):((wr2 W).h b).num=(W.h b).num:=by cases b <;> rfl
theorem zdy (W:WS) (b:Bool):∀ L∈(W.h b).laid,L∈all W:=fun L q=>by
 refine List.mem_append_left _ (List.mem_append_left _ (List.mem_append_left _ ?_))
 show L∈W.post ++ (W.h false).laid ++ (W.h true).laid
 cases b
 ·exact List.mem_append_left _ (List.mem_append_right _ q)
 ·exact List.mem_append_right _ q
theorem WR.rd (a:WR ks nc m W G) (nd':ks.Nodup) (k6:ks.length≤6) (h6:nc≤6):RD ks nc (m + 16) (wr2 W) G (p2 W) (qu (wr2 W) W.nc) where
 wk:=(a.ready nd' k6 h6).wk
 nu b key hk ho:=by
  have hin:∀ L∈((wr2 W).h b).nudge,L∈p2 W:=fun L q=>by
   show L∈(wr2 W).post ++ ((wr2 W).h false).nudge ++ ((wr2 W).h true).nudge
   cases b
   ·exact List.mem_append_left _ (List.mem_append_right _ q)
   ·exact List.mem_append_right _ q
  rw [zbk] at ho ⊢
  obtain ⟨r,hr,-⟩:=(a.wk.wj.wi.hi b).get hk
  rw [z3 hr] at ho ⊢
  refine ⟨r.amt,r.marks,hin _ ?_⟩
  have e:Letter.parcel (hn (!b)) key (r.turn + 1) r.amt r.marks=qn ((wr2 W).h b).num key r:=by rw [qn,zpy,a.wk.wj.wi.nu b,x9]
  rw [e]
  exact List.mem_map.2 ⟨(key,r),List.mem_filter.2 ⟨by rw [dy]; exact vm hr,decide_eq_true ho⟩,rfl⟩
 ca i hi p hp b:=cc hp b _ (by rw [a.wk.wj.wi.nc_]; exact hi)
 cl:=mn _ _
theorem WR.rnd (a:WR ks nc m W G) (nd':ks.Nodup) (k6:ks.length≤6) (h6:nc≤6):WR ks nc (m + 16 + 2 * (all W).length) (Mine.rnd W) G:=WR.brings nd' k6 h6 (all W) (wr2 W) (m + 16) (a.ready nd' k6 h6)
theorem lc (a:WR ks nc m W G) (k6:ks.length≤6) (h6:nc≤6):(all W).length≤tot W + 24:=by
 have e:W.nc=nc:=a.wk.wj.wi.nc_
 have h1:=f6 (wr2 W) W.nc
 have hn:∀ b,((wr2 W).h b).nudge.length≤6:=fun b=>by
  have h2:=congrArg List.length (a.wk.wj.wi.hi b).hk
  rw [List.length_map] at h2
  rw [HS.nudge,List.length_map,dy]
  exact Nat.le_trans (List.length_filter_le ..) (by lia)
 have n0:=hn false
 have n1:=hn true
 show (((wr2 W).post ++ ((wr2 W).h false).nudge ++ ((wr2 W).h true).nudge) ++ qu (wr2 W) W.nc).length≤_
 have h3:(wr2 W).post.length=tot W:=by
  show (W.post ++ (W.h false).laid ++ (W.h true).laid).length=_
  rw [List.length_append,List.length_append]; rfl
 rw [List.length_append,List.length_append,List.length_append,h3]
 lia
theorem zd7 (a:WR ks nc m W G) (k6:ks.length≤6) (h6:nc≤6):tot (Mine.rnd W)≤tot W + 24:=by
 have h1:=md (all W) (wr2 W)
 have h2:=lc a k6 h6
 have h0:g7 (wr2 W)=0:=rfl
 have h3:g7 (zq (wr2 W) (all W))=tot (Mine.rnd W):=by
  show _=0 + _ + _
  rw [Nat.zero_add]; rfl
 lia
noncomputable def One (ks:List Key) (W:WS):Prop:=∀ key∈ks,(W.h false).has key≠(W.h true).has key
theorem zed {h:HS}{key:Key}{r:Row} (hr:z7 key h.known=some r):h.has key=decide ((zb h.known key).st=.here):=by rw [HS.has,hr,z3 hr]
theorem WR.one (a:WR ks nc m W G) (nd':ks.Nodup) (k6:ks.length≤6) (h6:nc≤6):One ks (Mine.rnd W):=fun key hk=>by
 have d:=a.rd nd' k6 h6
 have k:=(a.rnd nd' k6 h6).wk
 obtain ⟨b,hb⟩:=d.here (l:=all W) (rest:=[]) (fun L q=>List.mem_append_left _ q) k hk
 have ki:=k.wj.wi.ki key hk
 have no:¬ ((zb ((Mine.rnd W).h false).known key).st=.here∧(zb ((Mine.rnd W).h true).known key).st=.here):=(ki.side false).one (ki.oth false)
 obtain ⟨r0,h0,-⟩:=(k.wj.wi.hi false).get hk
 obtain ⟨r1,h1,-⟩:=(k.wj.wi.hi true).get hk
 rw [zed h0,zed h1]
 have hb:(zb ((Mine.rnd W).h b).known key).st=.here:=hb
 cases b
 ·rw [decide_eq_true hb,decide_eq_false fun q=>no ⟨hb,q⟩]; exact Bool.noConfusion
 ·rw [decide_eq_true hb,decide_eq_false fun q=>no ⟨q,hb⟩]; exact Bool.noConfusion
theorem zn1 {h:HS} (hi:HInv h ks m) (nd':ks.Nodup) (hk:∀ key∈ks,(zb h.known key).st≠.owes):h.owes=[]:=by
 rw [HS.owes]
 refine List.map_eq_nil_iff.2 (List.filter_eq_nil_iff.2 fun p hp q=>?_)
 have hmem:p.1∈ks:=by rw [← hi.hk]; exact List.mem_map.2 ⟨p,hp,rfl⟩
 have e:=j9 (by rw [hi.hk]; exact nd') hp
 exact hk p.1 hmem (by rw [z3 e]; exact of_decide_eq_true q)
theorem WR.two (a:WR ks nc m W G) (nd':ks.Nodup) (k6:ks.length≤6) (h6:nc≤6):pe (Mine.rnd (Mine.rnd W)):=by
 have d:=a.rd nd' k6 h6
 have a1:=a.rnd nd' k6 h6
 have d1:=a1.rd nd' k6 h6
 have a2:=a1.rnd nd' k6 h6
 refine ⟨fun i hi=>?_,fun b=>zn1 (a2.wk.wj.wi.hi b) nd' fun key hk=>?_⟩
 ·have hi:i < nc:=by rw [← a2.wk.wj.wi.nc_]; exact hi
  refine RD.closes (W:=wr2 (Mine.rnd W)) (l:=all (Mine.rnd W)) fun p hp=>?_
  obtain ⟨b,t,ht⟩:=d.answered nd' k6 h6 hi (p:=p) hp
  exact ⟨t,zdy (Mine.rnd W) b _ ht⟩
 ·refine d1.ends (l:=all (Mine.rnd W)) hk b fun ho=>?_
  rw [zbk] at ho ⊢
  have:=(d.owed (l:=all W) (fun L q=>List.mem_append_left _ q) hk b ho).2
  exact zdy (Mine.rnd W) (!b) _ this
end
end Mine
end
section
namespace Mine
section
variable {ks:List Key}{W W':WS}{nc m m' r:Nat}{G:List Call}
noncomputable def RSt (ks:List Key) (nc m:Nat) (W:WS) (G:List Call) (r:Nat) (W':WS) (m':Nat):Prop :=
 WR ks nc m' W' G∧(0 < r→¬ pe W)∧(0 < r→One ks W')∧(m'≤m + 10 * tot W + 1000∧tot W'≤tot W + 48)∧((r=0∧W'=W∧m'=m)∨(r=1∧W'=rnd W∧m'=m + 16 + 2 * (all W).length)∨(r=2∧W'=rnd (rnd W)))
theorem RSt.zero (a:WR ks nc m W G):RSt ks nc m W G 0 W m:=⟨a,fun q=>absurd q (Nat.lt_irrefl 0),fun q=>absurd q (Nat.lt_irrefl 0),⟨by omega,by omega⟩,.inl ⟨rfl,rfl,rfl⟩⟩
theorem RSt.end_ (h:RSt ks nc m W G r W' m') (q:pe W'):r≤2∧(r=0 ↔ pe W)∧(r=0→W'=W):=by
 obtain ⟨-,h1,-,-,h⟩:=h
 rcases h with ⟨rfl,rfl,-⟩ | ⟨rfl,-⟩ | ⟨rfl,-⟩
 ·exact ⟨by decide,⟨fun _=>q,fun _=>rfl⟩,fun _=>rfl⟩
 ·exact ⟨by decide,⟨nofun,fun q=>absurd q (h1 Nat.one_pos)⟩,nofun⟩
 ·exact ⟨by decide,⟨nofun,fun q=>absurd q (h1 (by decide))⟩,nofun⟩
theorem RSt.next (K:KeysFine ks) (a:WR ks nc m W G) (h6:nc≤6) (hm:m + 10 * tot W + 1000 < 800000) (h:RSt ks nc m W G r W' m') (ns:¬ pe W'):r + 1≤2∧m' + 2 * tot W' + 100 < 900000∧∃ m2,RSt ks nc m W G (r + 1) (rnd W') m2:=by
 obtain ⟨-,h1,-,-,h⟩:=h
 have a1:=a.rnd K.nd K.six h6
 have l0:=lc a K.six h6
 have t1:=zd7 a K.six h6
 rcases h with ⟨rfl,rfl,rfl⟩ | ⟨rfl,rfl,rfl⟩ | ⟨-,rfl⟩
 ·exact ⟨by decide,by omega,_,a1,fun _=>ns,fun _=>a.one K.nd K.six h6,⟨by omega,by omega⟩,.inr (.inl ⟨rfl,rfl,rfl⟩)⟩
 ·have l1:=lc a1 K.six h6
  have t2:=zd7 a1 K.six h6
  exact ⟨by decide,by omega,_,a1.rnd K.nd K.six h6,fun _=>h1 Nat.one_pos,fun _=>a1.one K.nd K.six h6,⟨by omega,by omega⟩,.inr (.inr ⟨rfl,rfl⟩)⟩
 ·exact absurd (a.two K.nd K.six h6) ns
end
noncomputable def zw0 (ks:List Key) (nc m:Nat) (W:WS) (G:List Call) (s:MS) (v:V) (t:MS):Prop :=
 ∃ r:Nat,v=.int r∧r≤2∧(r=0 ↔ pe W)∧Fr NWp s t∧∃ W' x' m',WAt t ks W' x'∧WR ks nc m' W' G∧pe W'∧(r=0→W'=W)∧(0 < r→One ks W')∧tot W'≤tot W + 48∧m'≤m + 10 * tot W + 1000
noncomputable def zw3 (ks:List Key) (nc m:Nat) (W:WS) (G:List Call) (s:MS) (k:Nat) (L:Loc) (t:MS):Prop :=
 ∃ (r:Nat) (W':WS) (x':Bool→HIx) (m':Nat),k + r=2∧L=[some (.ref (1,0)),some (.int r)]∧WAt t ks W' x'∧Fr NWp s t∧RSt ks nc m W G r W' m'
section
variable {P:Prog} (H:WorldP P) (HP:HouseP P) (D:DeedP P) (SP:SetP P) {s u:MS}{ks:List Key}{W:WS}{x:Bool→HIx}{nc m:Nat}{G:List Call}
include H HP D SP
theorem zfh (n:Nat) (A:WAt s ks W x) (K:KeysFine ks) (a:WR ks nc m W G) (h6:nc≤6) (hm:m + 2 * tot W + 100 < 900000) :
  OkR (run P (n + 6) 63 [.ref (1,0)] s) fun v t=>v=.none∧(∃ x',WAt t ks (rnd W) x')∧Fr NWp s t:=by
 have w:=a.wk.wj.wi
 have e:W.nc=nc:=w.nc_
 have hl:=lc a K.six h6
 have rdy:=a.ready K.nd K.six h6
 refine zl SP.rou rfl ?_
 refine zic H HP D n A w K h6 (by lia) fun z x' t A1 f1=>?_
 refine zkc H HP D n A1 ((w.write false).write true) K h6 (by lia) fun z2 t2 A2 f2=>?_
 have hp2:(nd true (nd false (wr2 W))).post.length≤(all W).length:=by
  show _≤(p2 W ++ _).length
  rw [List.length_append]; exact Nat.le_add_right _ _
 refine zlr H n A2 (by lia) (by show W.nc≤6; lia) fun y t3 A3 f3=>?_
 rw [fy (W:=wr2 W) (W':=nd true (nd false (wr2 W))) rfl] at A3
 refine zkf H HP D n (W:=wr2 W) (l:=all W) A3 rdy.wk K h6 (by lia) fun c t4 A4 f4=>?_
 exact ⟨rfl,⟨x',A4⟩,((f1.trans f2).trans f3).trans f4⟩
theorem nv (n:Nat) (A:WAt s ks W x) (K:KeysFine ks) (a:WR ks nc m W G) (h6:nc≤6) (hm:m + 10 * tot W + 1000 < 800000) :
  OkR (run P (n + 8) 64 [.ref (1,0)] s) (zw0 ks nc m W G s):=by
 refine zl SP.set rfl ?_
 refine zn (v:=.int 0) (s':=s) rfl rfl ?_
 rw [gm,zbu]
 refine tr (zw3 ks nc m W G s) ?_ (n + 7) 2 _ _ (Nat.le_add_left _ _) ⟨0,W,x,m,rfl,rfl,A,.refl _ _,.zero a⟩
 rintro k L t ⟨r,W',x',m',hk,rfl,At,f,h⟩
 obtain ⟨v,t',e1,b,rfl,hb,f1⟩:=qz (zac H HP SP (n + 4) At K h.1.wk.wj.wi (Nat.lt_of_le_of_lt h.2.2.2.1.1 (Nat.lt_trans hm (by decide))))
 refine cz (kq (zr (x:=.ref (1,0)) (vs:=[]) (s2:=t) rfl ((zg At.o).trans SP.w26) rfl e1)) ⟨!b,rfl,?_⟩
 have At':=At.step f1.nw
 have f2:=f.trans f1.nwp
 cases b with
 | true =>
  rw [if_neg (by decide),vd]
  obtain ⟨h1,h2,h3⟩:=h.end_ (hb.1 rfl)
  exact qa (v:=.int r) (s':=t') rfl ⟨r,rfl,h1,h2,f2,W',x',m',At',h.1,hb.1 rfl,h3,h.2.2.1,h.2.2.2.1.2,h.2.2.2.1.1⟩
 | false =>
  obtain ⟨hr,hg,m2,hn⟩:=h.next K a h6 hm fun q=>nomatch hb.2 q
  rw [if_pos (by decide)]
  refine ⟨Nat.pos_of_ne_zero fun z=>?_,?_⟩
  ·subst z; rw [← hk,Nat.zero_add] at hr; exact Nat.not_succ_le_self _ hr
  refine j3 (jn (x:=.ref (1,0)) (vs:=[]) (s2:=t') rfl ((zg At'.o).trans SP.w27) rfl (zfh H HP D SP (n + 1) At' K h.1 h6 hg)) ?_
  rintro v u ⟨rfl,⟨x2,A2⟩,f3⟩
  exact zn (v:=.int ((r + 1:Nat):Int)) (s':=u) rfl rfl (zz ⟨r + 1,rnd W',x2,m2,by lia,rfl,A2,f2.trans f3,hn⟩)
end
end Mine
end
section
namespace Mine.L15
open Mine
noncomputable def ub:Fn:=⟨3,["self","number","keys","key"],[.setattr (.loc 0) 0 (.loc 1),.setattr (.loc 0) 4 (.dictM 4 [] []),.for_ (.inl (.loc 3)) false (.loc 2) [.setitem (.attr (.loc 0) 4) (.loc 3) (.tup [.str [104,101,114,101],.int 0,.int 0,.tup []]),.ite (.cmp (.loc 1) .ne (.int 0)) [.setitem (.attr (.loc 0) 4) (.loc 3) (.tup [.str [103,111,110,101],.neg (.int 1),.int 0,.tup []])] []],.setattr (.loc 0) 5 (.dictC 5 (.attr (.loc 0) 4)),.setattr (.loc 0) 6 (.lstM 6 []),.setattr (.loc 0) 7 (.lstM 7 [])]⟩
noncomputable def yj:Fn:=⟨5,["self","caller","number","key","wish","one","mark","pair","marks",""],[.assign 5 (.sub (.attr (.loc 0) 4) (.loc 3)),.for_ (.inl (.loc 6)) false (.sub (.loc 5) (.int 3)) [.ite (.and [.cmp (.sub (.loc 6) (.int 0)) .eq (.loc 1),.cmp (.sub (.loc 6) (.int 1)) .gt (.loc 2)]) [.ret none] [],.ite (.and [.cmp (.sub (.loc 6) (.int 0)) .eq (.loc 1),.cmp (.sub (.loc 6) (.int 1)) .eq (.loc 2)]) [.expr (.bm .append (.attr (.loc 0) 6) [.tup [.str [97,110,115,119,101,114],.loc 1,.loc 2,.sub (.loc 6) (.int 2)]]),.ret none] []],.assign 7 (.call 2 [.sub (.loc 5) (.int 2),.loc 4]),.assign 8 (.bin .add (.comp none 9 false (.sub (.loc 5) (.int 3)) (some (.cmp (.sub (.loc 9) (.int 0)) .ne (.loc 1))) (.loc 9)) (.lst [.tup [.loc 1,.loc 2,.sub (.loc 7) (.int 1)]])),.setitem (.attr (.loc 0) 4) (.loc 3) (.tup [.str [104,101,114,101],.sub (.loc 5) (.int 1),.sub (.loc 7) (.int 0),.prim .tuple1 [.prim .sorted [.loc 8]]]),.expr (.bm .append (.attr (.loc 0) 6) [.tup [.str [97,110,115,119,101,114],.loc 1,.loc 2,.sub (.loc 7) (.int 1)]]),.expr (.bm .append (.attr (.loc 0) 7) [.tup [.loc 1,.loc 2,.loc 3,.loc 4,.sub (.loc 7) (.int 1)]])]⟩
noncomputable def ma:Fn:=⟨1,["_law_found"],[.ret (some (.and [.isinst (.loc 0) [.int],.not (.isinst (.loc 0) [.bool])]))]⟩
noncomputable def zdc:Fn:=⟨4,["_law_world","_law_keys_here","_law_callers","_law_cell","_law_more","_law_house","_law_many","_law_caller","_law_key","_law_wish_here"],[.assign 4 (.bin .fdiv (.loc 3) (.int 16)),.assign 5 (.bin .mod (.loc 4) (.int 2)),.assign 6 (.prim .len [.meth (.loc 0) 19 []]),.ite (.cmp (.bin .mod (.loc 3) (.int 16)) .lt (.int 4)) [.assign 7 (.bin .mod (.bin .fdiv (.loc 4) (.int 2)) (.loc 2)),.ite (.isC true (.meth (.loc 0) 11 [.loc 7]) .none) [.expr (.meth (.loc 0) 18 [.loc 7,.loc 5]),.ret (some .none)] [],.assign 8 (.sub (.loc 1) (.bin .mod (.bin .fdiv (.loc 4) (.int 3)) (.prim .len [.loc 1]))),.assign 9 (.call 102 [.bin .fdiv (.bin .mul (.bin .add (.loc 3) (.int 5)) (.int 48271)) (.int 11)]),.ret (some (.tup [.loc 7,.meth (.loc 0) 17 [.loc 7,.loc 5,.loc 8,.loc 9],.loc 8,.loc 9]))] [],.ite (.and [.cmp (.bin .mod (.loc 3) (.int 16)) .lt (.int 8),.cmp (.loc 6) .gt (.int 0)]) [.expr (.meth (.loc 0) 21 [.sub (.lst [.int 0,.bin .sub (.loc 6) (.int 1),.bin .mod (.loc 4) (.loc 6),.bin .mod (.loc 4) (.loc 6)]) (.bin .sub (.bin .mod (.loc 3) (.int 16)) (.int 4))])] [.ite (.and [.cmp (.bin .mod (.loc 3) (.int 16)) .eq (.int 8),.cmp (.loc 6) .gt (.int 0)]) [.expr (.meth (.loc 0) 22 [.bin .mod (.loc 4) (.loc 6)])] [.ite (.and [.cmp (.bin .mod (.loc 3) (.int 16)) .eq (.int 9),.cmp (.loc 6) .gt (.int 0)]) [.expr (.meth (.loc 0) 23 [.bin .mod (.loc 4) (.loc 6)])] [.ite (.and [.cmp (.bin .mod (.loc 3) (.int 16)) .eq (.int 10),.isC true (.meth (.loc 0) 24 [.sub (.loc 1) (.bin .mod (.loc 4) (.prim .len [.loc 1]))]) .none]) [.expr (.meth (.loc 0) 5 [.sub (.loc 1) (.bin .mod (.loc 4) (.prim .len [.loc 1]))])] [.ite (.cmp (.bin .mod (.loc 3) (.int 16)) .eq (.int 14)) [.expr (.meth (.loc 0) 7 [.loc 5])] [.ite (.cmp (.bin .mod (.loc 3) (.int 16)) .eq (.int 15)) [.expr (.meth (.loc 0) 8 [.loc 5])] [.ite (.cmp (.bin .mod (.loc 3) (.int 16)) .gt (.int 10)) [.expr (.meth (.loc 0) 6 [.loc 5])] []]]]]]],.ret (some .none)]⟩
noncomputable def y8:Fn:=⟨2,["_law_world","_law_callers",""],[.ite (.or [.cmp (.meth (.loc 0) 1 [.int 0]) .ne (.lst []),.cmp (.meth (.loc 0) 1 [.int 1]) .ne (.lst [])]) [.ret (some (.bool false))] [],.ret (some (.cmp (.comp none 2 true (.loc 1) (some (.isC true (.meth (.loc 0) 11 [.loc 2]) .none)) (.loc 2)) .eq (.lst [])))]⟩
noncomputable def f_law_all_told:Fn:=⟨4,["_law_world","_law_keys_here","_law_callers","_law_begun","_law_key","_law_rows","_law_calls","_law_caller","_law_own","","","","",""],[.for_ (.inl (.loc 4)) false (.loc 1) [.ite (.cmp (.meth (.loc 0) 0 [.int 0,.loc 4]) .eq (.meth (.loc 0) 0 [.int 1,.loc 4])) [.ret (some (.bool false))] []],.assign 5 (.meth (.loc 0) 25 []),.assign 6 (.comp none 9 false (.loc 3) (some (.isC true (.loc 9) .none)) (.loc 9)),.ite (.cmp (.prim .len [.loc 5]) .ne (.prim .len [.loc 6])) [.ret (some (.bool false))] [],.for_ (.inl (.loc 7)) true (.loc 2) [.assign 8 (.comp none 10 false (.loc 5) (some (.cmp (.sub (.loc 10) (.int 0)) .eq (.loc 7))) (.tup [.sub (.loc 10) (.int 1),.sub (.loc 10) (.int 4)])),.ite (.or [.cmp (.meth (.loc 0) 12 [.loc 7]) .ne (.loc 8),.cmp (.prim .len [.loc 8]) .ne (.prim .len [.comp none 11 false (.loc 6) (some (.cmp (.sub (.loc 11) (.int 0)) .eq (.loc 7))) (.loc 11)])]) [.ret (some (.bool false))] []],.ret (some (.cmp (.comp none 12 false (.loc 6) (some (.cmp (.loc 12) .notin (.comp none 13 false (.loc 5) none (.slice (.loc 13) none (some (.int 4)))))) (.loc 12)) .eq (.lst [])))]⟩
noncomputable def f_law_settles:Fn:=⟨4,["_law_world","_law_keys_here","_law_callers","_law_begun","_law_ready","_law_rounds","_law_letters","_law_ledger"],[.assign 4 (.call 122 [.loc 0,.loc 2]),.assign 5 (.meth (.loc 0) 28 []),.ite (.or [.not (.call 120 [.loc 5]),.not (.cmp2 (.int 0) .le (.loc 5) .le (.int 2)),.cmp (.cmp (.loc 5) .eq (.int 0)) .ne (.loc 4)]) [.ret (some (.bool false))] [],.ite (.not (.call 122 [.loc 0,.loc 2])) [.ret (some (.bool false))] [],.assign 6 (.meth (.loc 0) 19 []),.assign 7 (.meth (.loc 0) 25 []),.ite (.or [.cmp (.meth (.loc 0) 28 []) .ne (.int 0),.cmp (.meth (.loc 0) 19 []) .ne (.loc 6),.cmp (.meth (.loc 0) 25 []) .ne (.loc 7)]) [.ret (some (.bool false))] [],.ret (some (.or [.cmp (.loc 5) .eq (.int 0),.call 123 [.loc 0,.loc 1,.loc 2,.loc 3]]))]⟩
noncomputable def zo9:Fn:=⟨1,["_law_script","_law_keys_here","_law_callers","_law_world","_law_begun","_law_cell"],[.assign 1 (.call 103 [.call 100 [.loc 0,.int 0]]),.assign 2 (.bin .add (.int 1) (.bin .mod (.call 100 [.loc 0,.int 1]) (.int 6))),.assign 3 (.new 0 [.prim .list1 [.loc 1],.loc 2]),.assign 4 (.lstM 33 []),.for_ (.inl (.loc 5)) false (.slice (.loc 0) (some (.int 2)) (some (.int 62))) [.expr (.bm .append (.loc 4) [.call 121 [.loc 3,.loc 1,.loc 2,.loc 5]])],.ite (.not (.call 124 [.loc 3,.loc 1,.loc 2,.loc 4])) [.ret (some (.bool false))] [],.for_ (.inl (.loc 5)) false (.slice (.loc 0) (some (.int 2)) (some (.int 32))) [.expr (.bm .append (.loc 4) [.call 121 [.loc 3,.loc 1,.loc 2,.loc 5]])],.ret (some (.call 124 [.loc 3,.loc 1,.loc 2,.loc 4]))]⟩
noncomputable def fnl:List (Nat×Fn):=[(0,Mine.f_is_whole),(1,(Mine.f_need_wish 5)),(2,Mine.f_done),(4,Mine.f_is_key),(5,(Mine.f_need_world 1)),(10,Mine.f_Caller_init),(11,Mine.f_Caller_begin),(12,Mine.f_Caller_letter),(13,Mine.f_Caller_came),(14,Mine.f_Caller_asking),(15,Mine.f_Caller_answers),(20,ub),(21,Mine.f_House_has),(22,Mine.f_House_owes),(23,Mine.f_House_came),(24,yj),(25,Mine.f_House_parcel),(26,(Mine.f_House_move 8)),(27,Mine.f_House_write),(28,Mine.f_House_sleep),(29,Mine.f_House_nudge),(40,Mine.f_World_init),(41,(Mine.f_World_need_caller 2)),(42,(Mine.f_World_need_house 3)),(43,(Mine.f_World_need_key 4)),(44,(Mine.f_World_need_place 9)),(45,(Mine.f_World_call 6)),(46,(Mine.f_World_again 7)),(47,Mine.f_World_letters),(48,Mine.f_World_brought),(49,Mine.f_World_hand),(50,Mine.f_World_twice),(51,Mine.f_World_lose),(52,Mine.f_World_home),(53,(Mine.f_World_move 8)),(54,Mine.f_World_has),(55,Mine.f_World_write),(56,Mine.f_World_sleep),(57,Mine.f_World_nudge),(58,Mine.f_World_ledger),(59,Mine.f_World_asking),(60,Mine.f_World_answers),(61,Mine.f_World_owes),(62,Mine.f_World_is_settled),(63,Mine.f_World_one_round),(64,Mine.f_World_settle),(100,Mine.f_cell),(102,Mine.f_wish),(103,Mine.f_keys),(118,zo9),(120,ma),(121,zdc),(122,y8),(123,f_law_all_told),(124,f_law_settles)]
noncomputable def mel:List ((Nat×Nat)×Nat):=[((2,9),11),((2,10),12),((2,2),13),((2,11),14),((2,12),15),((1,0),21),((1,1),22),((1,2),23),((1,3),24),((1,4),25),((1,5),26),((1,6),27),((1,7),28),((1,8),29),((0,13),41),((0,14),42),((0,15),43),((0,16),44),((0,17),45),((0,18),46),((0,19),47),((0,20),48),((0,21),49),((0,22),50),((0,23),51),((0,24),52),((0,5),53),((0,0),54),((0,6),55),((0,7),56),((0,8),57),((0,25),58),((0,11),59),((0,12),60),((0,1),61),((0,26),62),((0,27),63),((0,28),64)]
noncomputable def inl:List (Nat×(Nat×Nat)):=[(2,3,10),(1,2,20),(0,1,40)]
noncomputable def fnn:List (Nat×PySem.Str):=[(0,"is_whole"),(1,"need_wish"),(2,"done"),(4,"is_key"),(5,"need_world"),(100,"_law_cell_at"),(102,"_law_wish"),(103,"_law_keys"),(118,"law"),(120,"_law_whole"),(121,"_law_deed"),(122,"_law_is_settled"),(123,"_law_all_told"),(124,"_law_settles")]
noncomputable def xbl:List (Nat×List Nat):=[]
noncomputable def xsl:List (PySem.Str×Nat):=[]
noncomputable def xfl:List Nat:=[]
noncomputable def xml:List Nat:=[]
noncomputable def qfl:List Nat:=[]
noncomputable def prog:Prog:=⟨fun f=>fnl.lookup f,fun c m=>mel.lookup (c,m),fun c=>inl.lookup c,fun c=>(xbl.lookup c).getD []⟩
end Mine.L15
end
section
namespace Mine.L15
open Mine
theorem hHP:HouseP prog:=⟨rfl,rfl,rfl,rfl,rfl,rfl,rfl,rfl,rfl,rfl,rfl⟩
theorem wp:WorldP prog:=⟨rfl,⟨_,rfl⟩,⟨_,rfl⟩,⟨_,rfl⟩,⟨_,rfl⟩,rfl,rfl,rfl,rfl,rfl,rfl,rfl,rfl,rfl,rfl,rfl⟩
theorem dp:DeedP prog:=⟨rfl,rfl,⟨_,rfl⟩,⟨_,rfl⟩,⟨_,rfl⟩,rfl,rfl,rfl,rfl,rfl,⟨_,rfl⟩,⟨_,rfl⟩,rfl,rfl,rfl,rfl,rfl,rfl,rfl,rfl,rfl,rfl,rfl,rfl,rfl,rfl,rfl,rfl,rfl,rfl,rfl,rfl,rfl,rfl,rfl,rfl,rfl⟩
theorem sp:SetP prog:=⟨rfl,rfl,rfl,rfl,rfl,rfl,rfl⟩
theorem zjg:prog.fns 100=some f_cell:=rfl
theorem zqy:prog.fns 103=some f_keys:=rfl
noncomputable def gV (g:Call):V:=yo (some g)
section
variable {s:MS}
theorem zka {C:Calls}{n:Nat} (c:E) (l:Loc) (Q:Fl×Loc→MS→Prop) (s:MS) (h:ev prog C c l s=.ok (.bool false) s∧Q (.next,l) s):OkR (exs prog C n [.ite c [.ret (some (.bool false))] []] l s) Q:=zt (t:=false) (s':=s) h.1 (zi (zz h.2))
theorem mem_range {N:Nat}{v:V} (h:v∈(List.range N).map fun (k:Nat)=>V.int k):∃ k:Nat,k < N∧v=.int k:=by
 obtain ⟨k,hk,rfl⟩:=xh h
 exact ⟨k,List.mem_range.1 hk,rfl⟩
theorem zc {f:V→V→Option Bool}{x y:V}{la lb:List V}{p q:Bool} (h1:f x y=some p) (h2:qy f la lb=some q):qy f (x :: la) (y :: lb)=some (p && q):=by
 show (match f x y,qy f la lb with | some p,some q=>some (p && q) | _,_=>none)=_
 rw [h1,h2]
theorem j7 (d:Nat) (i:Int):veq s (d + 1) (.int i) (.int i)=some true:=congrArg some (decide_eq_true rfl)
theorem ug (d:Nat) (k:Key):veq s (d + 1) (.str k) (.str k)=some true:=congrArg some (decide_eq_true rfl)
theorem q_w (d:Nat) (w:W):veq s (d + 2) (wv w) (wv w)=some true:=by
 cases w with
 | get=>rfl
 | set i =>
  show qy (veq s (d + 1)) [.str _,.int i] [.str _,.int i]=some (true && (true && true))
  exact zc (ug d _) (zc (j7 d i) rfl)
 | add i =>
  show qy (veq s (d + 1)) [.str _,.int i] [.str _,.int i]=some (true && (true && true))
  exact zc (ug d _) (zc (j7 d i) rfl)
theorem t_w (d:Nat) (w w':W):∃ q,veq s (d + 2) (wv w) (wv w')=some q:=by
 cases w <;> cases w' <;> exact ⟨_,rfl⟩
theorem q_g (d:Nat) (g:Call):veq s (d + 3) (gV g) (gV g)=some true:=zc (j7 _ _) (zc (j7 _ _) (zc (ug _ _) (zc (q_w d _) rfl)))
theorem t_g (d:Nat) (a g:Call):∃ q,veq s (d + 3) (gV a) (gV g)=some q:=by
 obtain ⟨q,hq⟩:=t_w (s:=s) d a.2.2.2 g.2.2.2
 exact ⟨_,zc rfl (zc rfl (zc rfl (zc hq rfl)))⟩
theorem zpq (d:Nat) (r:LRow):veq s (d + 3) (xt r) (xt r)=some true:=zc (j7 _ _) (zc (j7 _ _) (zc (ug _ _) (zc (q_w d _) (zc (j7 _ _) rfl))))
theorem zti (d:Nat) (p:Int×Int):veq s (d + 2) (bj p) (bj p)=some true:=by
 show qy (veq s (d + 1)) [.int p.1,.int p.2] [.int p.1,.int p.2]=some (true && (true && true))
 exact zc (j7 _ _) (zc (j7 _ _) rfl)
theorem zrs (d:Nat) (l:List V) (h:∀ v∈l,veq s d v v=some true):veq s (d + 1) (.tup l) (.tup l)=some true:=by
 show (if false=false then (if false=true∧l.length≠l.length then some false else qy (veq s d) l l) else some false)=_
 rw [if_pos rfl,if_neg fun q=>nomatch q.1]
 exact cq _ _ h
theorem znd (d:Nat) (ms:List z9):veq s (d + 3) (vg ms) (vg ms)=some true:=zrs _ _ fun v hv=>by
 obtain ⟨m,-,rfl⟩:=xh hv
 show qy (veq s (d + 1)) [.int m.1,.int m.2.1,.int m.2.2] [.int m.1,.int m.2.1,.int m.2.2]=some (true && (true && (true && true)))
 exact zc (j7 _ _) (zc (j7 _ _) (zc (j7 _ _) rfl))
theorem ztw (d:Nat) (L:Letter):veq s (d + 4) (qp L) (qp L)=some true:=by
 cases L with
 | call h c n k w=>exact zc (ug _ _) (zc (j7 _ _) (zc (j7 _ _) (zc (j7 _ _) (zc (ug _ _) (zc (q_w (d + 1) _) rfl)))))
 | parcel h k t a ms=>exact zc (ug _ _) (zc (j7 _ _) (zc (ug _ _) (zc (j7 _ _) (zc (j7 _ _) (zc (znd d _) rfl)))))
 | taken h k t=>exact zc (ug _ _) (zc (j7 _ _) (zc (ug _ _) (zc (la:=[]) (lb:=[]) (q:=true) (j7 (s:=s) (d + 2) _) rfl)))
 | answer c n t=>exact zc (ug _ _) (zc (j7 _ _) (zc (j7 _ _) (zc (la:=[]) (lb:=[]) (q:=true) (j7 (s:=s) (d + 2) _) rfl)))
theorem zoa {a b:V}{l:List V} (n:Nat) (ha:zv s a=some (true,l)) (hb:zv s b=some (true,l)) (h:∀ x∈l,veq s n x x=some true):veq s (n + 1) a b=some true:=by
 show (match zv s a,zv s b with | some p,some q=>if p.1=q.1 then (if p.1=true∧p.2.length≠q.2.length then some false else qy (veq s n) p.2 q.2) else some false | some _,none=>x5 b | none,some _=>x5 a | none,none=>pj a b)=_
 rw [ha,hb]
 show (if true=true then (if true=true∧l.length≠l.length then some false else qy (veq s n) l l) else some false)=_
 rw [if_pos rfl,if_neg fun q=>q.2 rfl]
 exact cq _ _ h
theorem zw8 {a b:V}{l:List V} (ha:zv s a=some (true,l)) (hb:zv s b=some (true,l)) (h:∀ x∈l,veq s 11 x x=some true):cmpOp .ne a b s=.ok (.bool false) s:=by
 show okB s ((veq s 12 a b).map (!·))=_
 rw [zoa 11 ha hb h]; rfl
theorem zie {α:Type}{f:α→V}{a b:V}{l:List α} (ha:zv s a=some (true,l.map f)) (hb:zv s b=some (true,l.map f)) (h:∀ x,veq s 11 (f x) (f x)=some true):cmpOp .ne a b s=.ok (.bool false) s :=
 zw8 ha hb fun v hv=>by
  obtain ⟨x,-,rfl⟩:=xh hv
  exact h x
theorem ztg (l:List V):cmpOp .eq (.lst l) (.lst []) s=.ok (.bool l.isEmpty) s:=by cases l <;> rfl
theorem za3 {x y:V}{l:List V}{p q:Bool} (h1:veq s jv y x=some p) (h2:vin s x l=some q):vin s x (y :: l)=some (p || q):=by
 show (match veq s jv y x,vin s x l with | some p,some q=>some (p || q) | _,_=>none)=_
 rw [h1,h2]
theorem zos (g:Call):∀ (R:List LRow),∃ q,vin s (gV g) (R.map fun r=>gV r.call)=some q∧((∃ r∈R,r.call=g)→q=true)
 | []=>⟨false,rfl,fun ⟨r,h,_⟩=>nomatch h⟩
 | r :: R=>by
  obtain ⟨q,h1,h2⟩:=zos g R
  by_cases e:r.call=g
  ·subst e
   exact ⟨_,za3 (q_g 9 r.call) h1,fun _=>rfl⟩
  ·obtain ⟨p,hp⟩:=t_g (s:=s) 9 r.call g
   exact ⟨_,za3 hp h1,fun ⟨r',h,h'⟩=>by
    rw [h2 ⟨r',(List.mem_cons.1 h).resolve_left fun q=>e (q ▸ h'),h'⟩,Bool.or_true]⟩
end
section
variable {ks:List Key}{nc m:Nat}{W:WS}{x:Bool→HIx}{u:MS}{G:List Call}{bl:List (Option Call)}
noncomputable def zvs (W:WS):V→Bool
 | .int k=>(W.c k.toNat).op.isSome
 | _=>false
theorem zag (n:Nat) (A:WAt u ks W x) (K:KeysFine ks) (a:WI ks nc m W) (hm:m < 1000000) (h6:nc≤6):OkR (run prog (n + 6) 122 [.ref (1,0),.int nc] u) fun v t=>∃ b:Bool,v=.bool b∧(b=true ↔ pe W)∧Fr Nil u t:=by
 have nd0:((W.h false).known.map (·.1)).Nodup:=by rw [(a.hi false).hk]; exact K.nd
 have nd1:((W.h true).known.map (·.1)).Nodup:=by rw [(a.hi true).hk]; exact K.nd
 refine zl (fn:=y8) rfl rfl ?_
 have e0:=oy wp hHP rfl rfl (n + 2) A false (hz a K hm false) nd0
 have f0:Fr Nil u (u.new 14 (.list ((W.h false).owes.map .str))):=(Fr.refl _ _).new _ _
 have g0:(u.new 14 (.list ((W.h false).owes.map .str))).heap (14,u.cnt 14)=some (.list ((W.h false).owes.map .str)):=zy _ _ _
 have A0:=A.step f0.nw
 generalize u.new 14 (.list ((W.h false).owes.map .str))=t0 at e0 f0 g0 A0
 have c0:ev prog (run prog (n + 5)) (.cmp (.meth (.loc 0) 1 [.int 0]) .ne (.lst [])) [some (.ref (1,0)),some (.int nc),none] u=.ok (.bool (!((W.h false).owes.map V.str).isEmpty)) t0:=xg (x:=.ref (14,u.cnt 14)) (y:=.lst []) (zr (x:=.ref (1,0)) (vs:=[.int (hn false)]) rfl (zg A.o) rfl e0) rfl (zle _ _ _ g0)
 by_cases z0:(W.h false).owes=[]
 ·rw [z0] at c0
  have e1:=oy wp hHP rfl rfl (n + 2) A0 true (hz a K hm true) nd1
  have f1:=f0.new 14 (.list ((W.h true).owes.map .str))
  have g1:(t0.new 14 (.list ((W.h true).owes.map .str))).heap (14,t0.cnt 14)=some (.list ((W.h true).owes.map .str)):=zy _ _ _
  have A1:=A.step f1.nw
  generalize t0.new 14 (.list ((W.h true).owes.map .str))=t1 at e1 f1 g1 A1
  have c1:ev prog (run prog (n + 5)) (.cmp (.meth (.loc 0) 1 [.int 1]) .ne (.lst [])) [some (.ref (1,0)),some (.int nc),none] t0=.ok (.bool (!((W.h true).owes.map V.str).isEmpty)) t1:=xg (x:=.ref (14,t0.cnt 14)) (y:=.lst []) (zr (x:=.ref (1,0)) (vs:=[.int (hn true)]) rfl (zg A0.o) rfl e1) rfl (zle _ _ _ g1)
  by_cases z1:(W.h true).owes=[]
  ·rw [z1] at c1
   refine zt (t:=false) (s':=t1) (kg c0 (v6 c1)) (zi ?_)
   have hc:=ww t1 t1 true (.int nc) 2 (ev prog (run prog (n + 5)) (.isC true (.meth (.loc 0) 11 [.loc 2]) .none)) (ev prog (run prog (n + 5)) (.loc 2)) [some (.ref (1,0)),some (.int nc),none] (zvs W) id rfl ((List.range nc).map fun (k:Nat)=>V.int k) [] (fun v hv=>by
    obtain ⟨i,hi,rfl⟩:=mem_range hv
    have hi':i < W.nc:=by rw [a.nc_]; exact hi
    have ea:ev prog (run prog (n + 5)) (.meth (.loc 0) 11 [.loc 2]) [some (.ref (1,0)),some (.int nc),some (.int i)] t1=.ok (opV (W.c i).op) t1:=zr (x:=.ref (1,0)) (vs:=[.int i]) rfl (zg A1.o) rfl (mt wp rfl (n + 2) A1 hi')
    show ev prog (run prog (n + 5)) (.isC true (.meth (.loc 0) 11 [.loc 2]) .none) [some (.ref (1,0)),some (.int nc),some (.int i)] t1=.ok (.bool (W.c ((i:Int)).toNat).op.isSome) t1
    rw [Int.toNat_natCast]
    cases hop:(W.c i).op with
    | none=>rw [hop] at ea; exact yu (g:=true) (t:=true) ea (decide_eq_true rfl)
    | some p=>rw [hop] at ea; exact yu (g:=true) (t:=false) ea (decide_eq_false nofun)) (fun v hv _=>rfl) (by rw [List.length_map,List.length_range]; show 0 + _≤16777216; omega)
   rw [List.nil_append,List.map_id] at hc
   refine qa (v:=.bool (((List.range nc).map fun (k:Nat)=>V.int k).filter (zvs W)).isEmpty) (s':=t1) (xg (y:=.lst []) (wl (src:=.int nc) (xs:=(List.range nc).map fun (k:Nat)=>V.int k) (s1:=t1) rfl ((j8 t1 nc (by omega) (by omega)).trans (by rw [Int.toNat_natCast])) hc) rfl (ztg _)) ⟨_,rfl,?_,f1⟩
   rw [List.isEmpty_iff,List.filter_eq_nil_iff]
   constructor
   ·intro q
    refine ⟨fun i hi=>?_,fun b=>by cases b <;> assumption⟩
    have:=q (.int i) (List.mem_map.2 ⟨i,List.mem_range.2 (by rw [← a.nc_]; exact hi),rfl⟩)
    have this:¬ (W.c ((i:Int)).toNat).op.isSome=true:=this
    rw [Int.toNat_natCast] at this
    cases hop:(W.c i).op with
    | none=>rfl
    | some p=>rw [hop] at this; exact absurd rfl this
   ·intro q v hv
    obtain ⟨i,hi,rfl⟩:=mem_range hv
    show ¬ (W.c ((i:Int)).toNat).op.isSome=true
    rw [Int.toNat_natCast,q.1 i (by rw [a.nc_]; exact hi)]; exact Bool.false_ne_true
  ·have hb:(!((W.h true).owes.map V.str).isEmpty)=true:=by
    cases h:(W.h true).owes with
    | nil=>exact absurd h z1
    | cons=>rfl
   rw [hb] at c1
   exact zt (t:=true) (s':=t1) (kg c0 (v6 c1)) (qa (v:=.bool false) (s':=t1) rfl ⟨false,rfl,⟨fun q=>(nomatch q),fun q=>absurd (q.2 true) z1⟩,f1⟩)
 ·have hb:(!((W.h false).owes.map V.str).isEmpty)=true:=by
   cases h:(W.h false).owes with
   | nil=>exact absurd h z0
   | cons=>rfl
  rw [hb] at c0
  exact zt (t:=true) (s':=t0) (zot c0) (qa (v:=.bool false) (s':=t0) rfl ⟨false,rfl,⟨fun q=>(nomatch q),fun q=>absurd (q.2 false) z0⟩,f0⟩)
noncomputable def zf1 (v:V):Bool:=decide (v=V.none) != true
theorem zf3:zf1 (yo none)=false:=by rw [zf1,show decide (yo none=V.none)=true from decide_eq_true rfl]; rfl
theorem zfq (g:Call):zf1 (yo (some g))=true:=by rw [zf1,show decide (yo (some g)=V.none)=false from decide_eq_false nofun]; rfl
theorem b6:∀ bl:List (Option Call),(bl.map yo).filter zf1=(bl.filterMap id).map gV
 | []=>rfl
 | none :: bl=>by rw [List.map_cons,List.filter_cons,if_neg (by rw [zf3]; exact Bool.false_ne_true),b6 bl]; rfl
 | some g :: bl=>by rw [List.map_cons,List.filter_cons,if_pos (zfq g),b6 bl]; rfl
noncomputable def zrg (i:Nat):V→Bool
 | .tup (.int c :: _)=>decide (c=(i:Int))
 | _=>false
noncomputable def zwx:V→V
 | .tup [_,n,_,_,t]=>.tup [n,t]
 | v=>v
noncomputable abbrev zm0 (ks:List Key) (nc:Nat) (a b c d e:Option V):Loc:=[some (.ref (1,0)),some (.lst (ks.map .str)),some (.int nc),some (.ref (33,0)),a,b,c,d,e,none,none,none,none,none]
theorem zjo (n:Nat) (A:WAt u ks W x) (h1:One ks W) {key:Key} (hk:key∈ks) {Q:Fl×Loc→MS→Prop} (k:Q (.next,zm0 ks nc (some (.str key)) none none none none) u) :
  OkR (exs prog (run prog (n + 5)) (n + 5) [.ite (.cmp (.meth (.loc 0) 0 [.int 0,.loc 4]) .eq (.meth (.loc 0) 0 [.int 1,.loc 4])) [.ret (some (.bool false))] []] (zm0 ks nc (some (.str key)) none none none none) u) Q :=
 zka _ _ _ _ ⟨xg (zr (x:=.ref (1,0)) (vs:=[.int (hn false),.str key]) rfl (zg A.o) rfl (zbh wp hHP rfl (n + 2) A false hk)) (zr (x:=.ref (1,0)) (vs:=[.int (hn true),.str key]) rfl (zg A.o) rfl (zbh wp hHP rfl (n + 2) A true hk)) (congrArg (fun q=>Res.ok (V.bool q) u) (beq_eq_false_iff_ne.2 (h1 key hk))),k⟩
theorem fmx {C:Calls}{slot:Nat}{cond e:E}{l:Loc}{src:V}{p:V→Bool}{f:V→V}{xs ys:List V} (hi:z6 u false src=some xs) (hs:stays u u false src=true) (hl:xs.length≤1000) (h1:∀ v∈xs,ev prog C cond (l.set slot (some v)) u=.ok (.bool (p v)) u) (h2:∀ v∈xs,ev prog C e (l.set slot (some v)) u=.ok (f v) u) (hy:(xs.filter p).map f=ys) {a:E} (ha:ev prog C a l u=.ok src u) :
  ev prog C (.comp none slot false a (some cond) e) l u=.ok (.lst ys) u:=by
 refine wl ha hi ((ww u u false src slot _ _ l p f hs xs [] h1 (fun v hv _=>h2 v hv) ?_).trans (by rw [List.nil_append,hy]))
 show 0 + xs.length≤16777216
 rw [Nat.zero_add]; exact Nat.le_trans hl (by decide)
theorem az {C:Calls}{α:Type}{f:α→V}{l:List α}{e:E}{L:Loc} (h:ev prog C e L u=.ok (.lst (l.map f)) u):ev prog C (.prim .len [e]) L u=.ok (.int (l.length:Nat)) u :=
 yn (z5 h rfl) ((bg (s:=u) (a:=.lst (l.map f)) (k:=true) rfl).trans (by rw [List.length_map]))
noncomputable def zt6:List S:=[.assign 8 (.comp none 10 false (.loc 5) (some (.cmp (.sub (.loc 10) (.int 0)) .eq (.loc 7))) (.tup [.sub (.loc 10) (.int 1),.sub (.loc 10) (.int 4)])),.ite (.or [.cmp (.meth (.loc 0) 12 [.loc 7]) .ne (.loc 8),.cmp (.prim .len [.loc 8]) .ne (.prim .len [.comp none 11 false (.loc 6) (some (.cmp (.sub (.loc 11) (.int 0)) .eq (.loc 7))) (.loc 11)])]) [.ret (some (.bool false))] []]
noncomputable abbrev zkn (ks:List Key) (nc jr:Nat) (G:List Call) (z c d:Option V):Loc:=zm0 ks nc z (some (.ref (12,jr))) (some (.lst (G.map gV))) c d
theorem zfy (n:Nat) (A:WAt u ks W x) (hG:G.length≤1000) (hr:W.rows.length≤1000) {jr i:Nat} (g:u.heap (12,jr)=some (.list (W.rows.map xt))) (hi:i < W.nc) (told:(W.c i).closed=(k9 i W.rows).map fun r=>(r.n,r.told)) (own:(ownOf i G).length=(W.c i).closed.length) {z d:Option V}{Q:Fl×Loc→MS→Prop} (k:∀ d t,Fr Nil u t→Q (.next,zkn ks nc jr G z (some (.int i)) d) t) :
  OkR (exs prog (run prog (n + 5)) (n + 5) zt6 (zkn ks nc jr G z (some (.int i)) d) u) Q:=by
 refine zn (v:=.lst ((W.c i).closed.map bj)) (fmx (p:=zrg i) (f:=zwx) (wg g) (yi _ _ _) (by rw [List.length_map]; exact hr) (fun v hv=>?_) (fun v hv=>?_) (by rw [told,List.filter_map,List.map_map,List.map_map]; rfl) rfl) rfl ?_
 ·obtain ⟨r,-,rfl⟩:=xh hv; rfl
 ·obtain ⟨r,-,rfl⟩:=xh hv; rfl
 ·refine zt (t:=false) (kg (xg (zr (x:=.ref (1,0)) (vs:=[.int i]) rfl (zg A.o) rfl (rx wp rfl rfl rfl (n + 2) A hi)) rfl (zie (jm (zy _ _ _)) rfl (zti 9))) (v6 (xg (az (l:=(W.c i).closed) (f:=bj) rfl) (az (l:=ownOf i G) (f:=gV) (fmx (p:=zrg i) (f:=id) (src:=.lst (G.map gV)) rfl rfl (by rw [List.length_map]; exact hG) (fun v hv=>?_) (fun v hv=>rfl) (by rw [List.map_id,List.filter_map]; rfl) rfl)) (congrArg (fun q=>Res.ok (V.bool (!q)) _) (decide_eq_true (by rw [own])))))) (zi (zz (k _ _ ((Fr.refl _ _).new _ _))))
  obtain ⟨r,-,rfl⟩:=xh hv; rfl
noncomputable def zwv:V→V
 | .tup [a,b,c,d,_]=>.tup [a,b,c,d]
 | v=>v
theorem zhq (n:Nat) {R:List LRow} (hG:G.length≤1000) (hr:R.length≤1000) {jr:Nat} (g:u.heap (12,jr)=some (.list (R.map xt))) (rowed:∀ q∈G,∃ r∈R,r.call=q) {z c d:Option V} :
  ev prog (run prog (n + 5)) (.cmp (.comp none 12 false (.loc 6) (some (.cmp (.loc 12) .notin (.comp none 13 false (.loc 5) none (.slice (.loc 13) none (some (.int 4)))))) (.loc 12)) .eq (.lst [])) (zkn ks nc jr G z c d) u=.ok (.bool true) u:=by
 refine xg (x:=.lst []) (fmx (p:=fun _=>false) (f:=id) (src:=.lst (G.map gV)) rfl rfl (by rw [List.length_map]; exact hG) (fun v hv=>?_) (fun v hv=>rfl) (by rw [List.filter_eq_nil_iff.2 fun _ _=>Bool.false_ne_true]; rfl) rfl) rfl rfl
 obtain ⟨q,hq,rfl⟩:=xh hv
 obtain ⟨b,hv1,hv2⟩:=zos (s:=u) q R
 cases hv2 (rowed q hq)
 refine xg (y:=.lst (R.map fun r=>gV r.call)) rfl (wl rfl (wg g) ((ux u u false (.ref (12,jr)) 13 _ _ zwv (yi _ _ _) (R.map xt) [] (fun v hv=>?_) ?_).trans (by rw [List.nil_append,List.map_map]; rfl))) ?_
 ·obtain ⟨r,-,rfl⟩:=xh hv
  exact lx (x:=xt r) (y:=none) (z:=some (.int 4)) rfl rfl rfl rfl
 ·show 0 + (R.map xt).length≤16777216
  rw [Nat.zero_add,List.length_map]; exact Nat.le_trans hr (by decide)
 ·show okB u ((vin u (gV q) (R.map fun r=>gV r.call)).map (!·))=_
  rw [hv1]; rfl
theorem zgt (n:Nat) (A:WAt u ks W x) (a:WR ks nc m W G) (ho:∀ i,i < nc→(W.c i).op=none) (h6:nc≤6) (hG:G.length≤1000) {jr:Nat} (g:u.heap (12,jr)=some (.list (W.rows.map xt))) (c12:jr < u.cnt 12) {z:Option V}{Q:Fl×Loc→MS→Prop} (k:∀ L t,Fr Nil u t→Q (.ret (.bool true),L) t) :
  OkR (exs prog (run prog (n + 5)) (n + 5) (f_law_all_told.body.drop 3) (zkn ks nc jr G z none none) u) Q:=by
 have hr:W.rows.length≤1000:=by rw [a.count ho]; exact hG
 have keep:∀ {t},Fr Nil u t→t.heap (12,jr)=some (.list (W.rows.map xt)):=fun f=>(f.1 (12,jr) c12 fun q=>q).trans g
 refine zt (t:=false) (xg (x:=.int (G.length:Nat)) (s2:=u) (yn (vs:=[.ref (12,jr)]) (s1:=u) rfl ((bg (jm g)).trans (by rw [List.length_map,a.count ho]))) (az (l:=G) (f:=gV) rfl) (congrArg (fun q=>Res.ok (V.bool (!q)) u) (decide_eq_true rfl))) (zi ?_)
 refine vx (v:=.int nc) rfl ((j8 u nc (by omega) (by omega)).trans (by rw [Int.toNat_natCast])) rfl (zbq (fun (i:Nat)=>V.int i) (fun (y:Option V×Option V)=>zkn ks nc jr G z y.1 y.2) (Fr Nil u) (xs:=List.range nc) (y:=(none,none)) (.refl _ _) (fun _ _=>rfl) (fun i hi y t f=>?_) fun y t f=>?_)
 ·have hi:=List.mem_range.1 hi
  obtain ⟨told,own⟩:=a.told hi (ho i hi)
  exact zfy n (A.step f.nw) hG hr (keep f) (a.wk.wj.wi.nc_.symm ▸ hi) told own fun d t f'=>⟨rfl,⟨(some (.int i),d),rfl⟩,f.trans f'⟩
 ·rw [vd]
  exact qa (zhq n hG hr (keep f) fun q hq=>a.rowed ho hq) (k _ t f)
theorem zim (n:Nat) (A:WAt u ks W x) (a:WR ks nc m W G) (hS:pe W) (h1:One ks W) (h6:nc≤6) (hb:u.heap (33,0)=some (.list (bl.map yo))) (hG:G=bl.filterMap id) (hbl:bl.length≤1000) :
  OkR (run prog (n + 6) 123 [.ref (1,0),.lst (ks.map .str),.int nc,.ref (33,0)] u) fun v t=>v=.bool true∧Fr Nil u t:=by
 refine zl (fn:=f_law_all_told) rfl rfl (vx (v:=.lst (ks.map .str)) rfl rfl rfl (zbq V.str (fun z=>zm0 ks nc z none none none none) (u=·) (y:=none) rfl (fun _ _=>rfl) (fun key hk y t e=>e ▸ zjo n A h1 hk ⟨rfl,⟨_,rfl⟩,rfl⟩) fun z t e=>?_))
 cases e
 rw [vd]
 have f:Fr Nil u (u.new 12 (.list (W.rows.map xt))):=(Fr.refl _ _).new _ _
 refine zn (zr (x:=.ref (1,0)) (vs:=[]) rfl (zg A.o) rfl (uo wp rfl (n + 4) A)) rfl (zn (v:=.lst (G.map gV)) (fmx (src:=.ref (33,0)) (p:=zf1) (f:=id) (wg ((q9 (ze (by decide))).trans hb)) (yi _ _ _) (by rw [List.length_map]; exact hbl) (fun v hv=>rfl) (fun v hv=>rfl) (by rw [List.map_id,b6,← hG]) rfl) rfl ?_)
 exact zgt n (A.step f.nw) a (fun i hi=>hS.1 i (a.wk.wj.wi.nc_.symm ▸ hi)) h6 (by rw [hG]; exact Nat.le_trans (List.length_filterMap_le ..) hbl) (zy _ _ _) (by rw [uk]; exact Nat.lt_succ_self _) fun L t f'=>⟨rfl,f.trans f'⟩
theorem zdq (n:Nat) (i:Int) (s:MS):run prog (n + 1) 120 [.int i] s=.ok (.bool true) s:=qm (zl (fn:=ma) rfl rfl (qa (v:=.bool true) (s':=s) rfl ⟨rfl,rfl⟩))
noncomputable abbrev zpi (ks:List Key) (nc:Nat) (a b c d:Option V):Loc:=[some (.ref (1,0)),some (.lst (ks.map .str)),some (.int nc),some (.ref (33,0)),a,b,c,d]
set_option genCtorIdx false in
structure Snap (k j:Nat) (l:List V) (t:MS):Prop where
 h:t.heap (k,j)=some (.list l)
 c:j < t.cnt k
theorem Snap.new (t:MS) (k:Nat) (l:List V):Snap k (t.cnt k) l (t.new k (.list l)):=⟨zy _ _ _,by rw [uk]; exact Nat.lt_succ_self _⟩
theorem Snap.step {F:Lbl→Prop}{k j:Nat}{l:List V}{t t':MS} (a:Snap k j l t) (f:Fr F t t') (hF:¬ F (k,j)):Snap k j l t':=⟨(f.1 (k,j) a.c hF).trans a.h,Nat.lt_of_lt_of_le a.c (f.2 k)⟩
theorem Snap.next {k j:Nat}{l:List V}{t:MS} (a:Snap k j l t) (k':Nat) (o:MObj):Snap k j l (t.new k' o):=a.step (F:=Nil) ((Fr.refl _ _).new _ _) fun q=>q
theorem nz {n r:Nat}{b:Bool}{a6 a7:Option V} (hb:b=true ↔ r=0) (hr:r≤2):ev prog (run prog (n + 1)) (.or [.not (.call 120 [.loc 5]),.not (.cmp2 (.int 0) .le (.loc 5) .le (.int 2)),.cmp (.cmp (.loc 5) .eq (.int 0)) .ne (.loc 4)]) (zpi ks nc (some (.bool b)) (some (.int r)) a6 a7) u=.ok (.bool false) u:=by
 refine kg (kq (t:=true) (jt (vs:=[.int r]) rfl (zdq n r u))) (kg (kq (t:=true) (fg (x:=0) (y:=r) (z:=2) rfl rfl rfl (Int.natCast_nonneg r) (Int.ofNat_le.2 hr))) (v6 (xg (x:=.bool (decide ((r:Int)=0))) (y:=.bool b) rfl rfl (congrArg (fun q=>Res.ok (V.bool (!q)) u) (beq_iff_eq.2 ?_)))))
 cases b with
 | true=>exact decide_eq_true (congrArg Nat.cast (hb.1 rfl))
 | false=>exact decide_eq_false fun q=>nomatch hb.2 (Int.ofNat.inj q)
theorem ii (n:Nat) (A:WAt u ks W x) (K:KeysFine ks) (a:WR ks nc m W G) (hS:pe W) (h6:nc≤6) (hm:m + 10 * tot W + 1000 < 800000) {j1 j2:Nat} (s1:Snap 11 j1 (W.post.map qp) u) (s2:Snap 12 j2 (W.rows.map xt) u) {a4 a5:Option V} :
  ∃ t x',ev prog (run prog (n + 8)) (.or [.cmp (.meth (.loc 0) 28 []) .ne (.int 0),.cmp (.meth (.loc 0) 19 []) .ne (.loc 6),.cmp (.meth (.loc 0) 25 []) .ne (.loc 7)]) (zpi ks nc a4 a5 (some (.ref (11,j1))) (some (.ref (12,j2)))) u=.ok (.bool false) t∧WAt t ks W x'∧Fr NWp u t:=by
 obtain ⟨v,t,e,r,rfl,-,hr,f,W',x',m',A1,-,-,hW,-⟩:=qz (nv wp hHP dp sp n A K a h6 hm)
 cases hr.2 hS
 cases hW rfl
 have f1:Fr Nil t (t.new 11 (.list (W.post.map qp))):=(Fr.refl _ _).new _ _
 have A2:=A1.step f1.nw
 have f2:=f1.new 12 (.list (W.rows.map xt))
 refine ⟨_,x',kg (xg (x:=.int ((0:Nat):Int)) (y:=.int 0) (zr (x:=.ref (1,0)) (vs:=[]) rfl (zg A.o) rfl e) rfl rfl) (kg (xg (y:=.ref (11,j1)) (zr (x:=.ref (1,0)) (vs:=[]) rfl (zg A1.o) rfl (wt wp rfl (n + 7) A1)) rfl (zie (jm (zy _ _ _)) (jm ((s1.step f (of_decide_eq_true (p:=¬ 11 < 11) rfl)).next _ _).h) (ztw 7))) (v6 (xg (y:=.ref (12,j2)) (zr (x:=.ref (1,0)) (vs:=[]) rfl (zg A2.o) rfl (uo wp rfl (n + 7) A2)) rfl (zie (jm (zy _ _ _)) (jm (((s2.step f (of_decide_eq_true (p:=¬ 12 < 11) rfl)).next _ _).next _ _).h) (zpq 8))))),A1.step f2.nw,f.trans f2.nwp⟩
theorem al (n:Nat) (A:WAt u ks W x) (K:KeysFine ks) (a:WR ks nc m W G) (hS:pe W) (h6:nc≤6) (hm:m + 10 * tot W + 1000 < 800000) {r:Nat} (h1:0 < r→One ks W) (hb:Snap 33 0 (bl.map yo) u) (hG:G=bl.filterMap id) (hbl:bl.length≤1000) {a4:Option V}{Q:Fl×Loc→MS→Prop} (k:∀ L t x',WAt t ks W x'→Fr NWp u t→Q (.ret (.bool true),L) t) :
  OkR (exs prog (run prog (n + 8)) (n + 8) (f_law_settles.body.drop 4) (zpi ks nc a4 (some (.int r)) none none) u) Q:=by
 have f1:Fr Nil u (u.new 11 (.list (W.post.map qp))):=(Fr.refl _ _).new _ _
 have f2:=f1.new 12 (.list (W.rows.map xt))
 obtain ⟨t,x',e,A',f⟩:=ii n (A.step f2.nw) K a hS h6 hm ((Snap.new _ _ _).next _ _) (Snap.new _ _ _)
 refine zn (zr (x:=.ref (1,0)) (vs:=[]) rfl (zg A.o) rfl (wt wp rfl (n + 7) A)) rfl (zn (zr (x:=.ref (1,0)) (vs:=[]) rfl (zg (A.step f1.nw).o) rfl (uo wp rfl (n + 7) (A.step f1.nw))) rfl (zt (t:=false) e (zi ?_)))
 have f3:=f2.nwp.trans f
 cases r with
 | zero=>exact qa (v:=.bool true) (zot (s1:=t) rfl) (k _ t x' A' f3)
 | succ r =>
  obtain ⟨v,t8,e8,rfl,f8⟩:=qz (zim (n + 2) A' a hS (h1 (Nat.succ_pos r)) h6 (hb.step f3 (of_decide_eq_true (p:=¬ 33 < 11) rfl)).h hG hbl)
  exact qa (kg (congrArg (fun q=>Res.ok (V.bool q) t) (decide_eq_false nofun)) (v6 (jt (vs:=[.ref (1,0),.lst (ks.map .str),.int nc,.ref (33,0)]) rfl e8))) (k _ t8 x' (A'.step f8.nw) (f3.trans f8.nwp))
theorem zfl {m m' T T':Nat} (h:m + 30 * T + 5000 < 800000) (h1:T'≤T + 48) (h2:m'≤m + 10 * T + 1000):m' + 10 * T' + 1000 < 800000∧m' < 1000000 :=
 have h3:m' + 10 * T' + 1000 < 800000:=by omega
 ⟨h3,Nat.lt_of_le_of_lt (Nat.le_trans (Nat.le_add_right _ _) (Nat.le_add_right _ _)) (Nat.lt_trans h3 (by decide))⟩
theorem ztr {m T:Nat} (h:m + 30 * T + 5000 < 800000):m < 1000000∧m + 10 * T + 1000 < 800000 :=
 ⟨Nat.lt_of_le_of_lt (Nat.le_trans (Nat.le_add_right _ _) (Nat.le_add_right _ _)) (Nat.lt_trans h (by decide)),Nat.lt_of_le_of_lt (Nat.add_le_add (Nat.add_le_add_left (Nat.mul_le_mul_right _ (by decide)) _) (by decide)) h⟩
noncomputable def zt4 (ks:List Key) (nc m:Nat) (W:WS) (G:List Call) (u:MS) (v:V) (t:MS):Prop:=v=.bool true∧Fr NWp u t∧∃ W' x' m',WAt t ks W' x'∧WR ks nc m' W' G∧tot W'≤tot W + 48∧m'≤m + 10 * tot W + 1000
theorem mr (n:Nat) (A:WAt u ks W x) (K:KeysFine ks) (a:WR ks nc m W G) (hm:m + 30 * tot W + 5000 < 800000) (h6:nc≤6) (hb:Snap 33 0 (bl.map yo) u) (hG:G=bl.filterMap id) (hbl:bl.length≤1000) :
  OkR (run prog (n + 9) 124 [.ref (1,0),.lst (ks.map .str),.int nc,.ref (33,0)] u) (zt4 ks nc m W G u):=by
 obtain ⟨hma,hmb⟩:=ztr hm
 obtain ⟨v,t0,e0,b0,rfl,hb0,f0⟩:=qz (zag (n + 2) A K a.wk.wj.wi hma h6)
 have A0:=A.step f0.nw
 obtain ⟨v,t1,e1,r,rfl,hr2,hr0,f1,W',x',m',A1,a1,hS,-,hone,htot,hm'⟩:=qz (nv wp hHP dp sp n A0 K a h6 hmb)
 obtain ⟨hm1,hmc⟩:=zfl hm htot hm'
 obtain ⟨v,t2,e2,b2,rfl,hb2,f2⟩:=qz (zag (n + 2) A1 K a1.wk.wj.wi hmc h6)
 cases hb2.2 hS
 have f:=(f0.nwp.trans f1).trans f2.nwp
 exact zl (fn:=f_law_settles) rfl rfl (zn (jt (vs:=[.ref (1,0),.int nc]) rfl e0) rfl (zn (zr (x:=.ref (1,0)) (vs:=[]) rfl (zg A0.o) rfl e1) rfl (zt (t:=false) (nz (hb0.trans hr0.symm) hr2) (zi (zt (t:=false) (kq (t:=true) (jt (vs:=[.ref (1,0),.int nc]) rfl e2)) (zi (al n (A1.step f2.nw) K a1 hS h6 hm1 hone (hb.step f (of_decide_eq_true (p:=¬ 33 < 11) rfl)) hG hbl fun L t x' A' f'=>⟨rfl,f.trans f',W',x',m',A',a1,htot,hm'⟩)))))))
theorem zwp {p q a b k:Nat} (h:q≤p + k):q + a + b≤p + a + b + k:=by omega
theorem d4 {p:List Letter} (h:p.length≤W.post.length + 8):tot { W with post:=p }≤tot W + 8:=zwp h
theorem pf (b:Bool) (y:HS) (hy:y.laid.length≤(W.h b).laid.length + 1):tot { W with h:=upd W.h b y }≤tot W + 8:=by
 have:=Nat.add_le_add_left (m9 (f:=W.h) b (fun h=>h.laid.length) hy) W.post.length
 rw [← Nat.add_assoc,← Nat.add_assoc,← Nat.add_assoc] at this
 exact Nat.le_trans this (Nat.add_le_add_left (by decide) _)
theorem zez (b:Bool):tot { W with h:=upd W.h b (W.h b).write,post:=W.post ++ (W.h b).laid,rows:=W.rows ++ (W.h b).fresh }≤tot W + 8:=by
 have e:∀ (p q r:Nat),p + q + 0 + r≤p + q + r + 8:=fun _ _ _=>Nat.le_add_right _ _
 show (W.post ++ (W.h b).laid).length + _ + _≤_
 rw [List.length_append]
 cases b
 ·exact e _ _ _
 ·show _ + (W.h false).laid.length + 0≤_
  exact Nat.le_trans (Nat.le_of_eq (Nat.add_right_comm W.post.length (W.h true).laid.length (W.h false).laid.length)) (Nat.le_add_right _ 8)
theorem zab {W':WS}{o:Option Call} (a:WI ks nc m W) (k6:ks.length≤6) (s:WStep ks nc W o W'):tot W'≤tot W + 8:=by
 cases s with
 | same=>exact Nat.le_add_right _ _
 | post b i p hi ho=>exact d4 (by rw [List.length_append]; exact Nat.add_le_add_left (of_decide_eq_true (p:=1≤8) rfl) _)
 | begin i k w hi ho hk=>exact Nat.le_add_right _ _
 | came b L hL ha=>exact pf b _ (zaz _ _)
 | answer i n t hi hL=>exact Nat.le_add_right _ _
 | erase p=>exact d4 (Nat.le_trans (List.length_eraseIdx_le W.post p) (Nat.le_add_right _ _))
 | move b k r hr hs hk=>exact pf b _ (by show ((W.h b).laid ++ [_]).length≤_; rw [List.length_append]; exact Nat.le_refl _)
 | sleep b=>exact pf b _ (Nat.zero_le _)
 | nudge b=>exact d4 (by rw [List.length_append]; exact Nat.add_le_add_left (Nat.le_trans (bf (a.hi b)) (Nat.le_trans k6 (by decide))) _)
 | write b=>exact zez b
set_option genCtorIdx false in
structure LB (ks:List Key) (nc m k T:Nat) (W:WS) (x:Bool→HIx) (bl:List (Option Call)) (t:MS):Prop where
 A:WAt t ks W x
 R:WR ks nc m W (List.filterMap id bl)
 b:Snap 33 0 (List.map yo bl) t
 l:bl.length≤k
 T:tot W≤T
noncomputable def LBs (ks:List Key) (nc m k T:Nat) (t:MS):Prop:=∃ W x bl,LB ks nc m k T W x bl t
noncomputable abbrev zhb (l:List Int) (ks:List Key) (nc:Nat) (a:Option V):Loc:=[some (.lst (l.map .int)),some (.lst (ks.map .str)),some (.int nc),some (.ref (1,0)),some (.ref (33,0)),a]
theorem zhd (bl:List (Option Call)) (o:Option Call):(bl ++ [o]).filterMap id=bl.filterMap id ++ o.toList:=by
 rw [List.filterMap_append]
 cases o <;> rfl
theorem turn {k T:Nat} (n:Nat) (K:KeysFine ks) (h1:1≤nc) (h6:nc≤6) (hm:m < 900000) (hk:k < 1000) {l:List Int} (cell:Int) (b:LBs ks nc m k T u) :
  OkR (ev prog (run prog (n + 6)) (.bm .append (.loc 4) [.call 121 [.loc 3,.loc 1,.loc 2,.loc 5]]) (zhb l ks nc (some (.int cell))) u) fun v t=>LBs ks nc (m + 2) (k + 1) (T + 16) t:=by
 obtain ⟨W,x,bl,b⟩:=b
 refine zqd (x:=.ref (33,0)) (s1:=u) rfl (xr b.b.h) (zm3 (vs:=[.ref (1,0),.lst (ks.map .str),.int nc,.int cell]) (s1:=u) rfl (zk0 wp hHP dp (fd:=121) rfl n b.A b.R.wk.wj.wi K h1 h6 (Nat.lt_trans hm (by decide)) cell)) ?_
 rintro v s' ⟨o,rfl,W1,W2,x',s1,s2,A2,f⟩
 have g:=b.b.step f (of_decide_eq_true (p:=¬ 33 < 11) rfl)
 have a1:=b.R.step K.nd K.six h6 s1
 have a2:=a1.step K.nd K.six h6 s2
 have e:bl.filterMap id ++ o.toList ++ (none:Option Call).toList=(bl ++ [o]).filterMap id:=by rw [zhd]; exact List.append_nil _
 exact cz (kb s' (33,0) (bl.map yo) (yo o) g.h (by rw [List.length_map]; exact Nat.lt_of_le_of_lt b.l (Nat.lt_trans hk (by decide)))) ⟨W2,x',bl ++ [o],A2.step ((Fr.refl _ _).put (l:=(33,0)) (of_decide_eq_true (p:=11≤33) rfl) _),e ▸ a2,⟨by rw [zm,List.map_append]; rfl,g.c⟩,by rw [List.length_append]; exact Nat.succ_le_succ b.l,Nat.le_trans (zab a1.wk.wj.wi K.six s2) (Nat.add_le_add_right (Nat.le_trans (zab b.R.wk.wj.wi K.six s1) (Nat.add_le_add_right b.T 8)) 8)⟩
theorem zph (l:List Int) (i j:Nat) (s:MS):xu (.lst (l.map .int)) (some (.int i)) (some (.int j)) s=.ok (.lst (((l.take j).drop i).map .int)) s:=by
 rw [List.map_drop,List.map_take]
 show (match (if (0:Int)≤i then some (i:Int).toNat else none),(if (0:Int)≤j then some (j:Int).toNat else none) with | some i,some j=>Res.ok (V.lst (((l.map V.int).take j).drop i)) s | _,_=>.stuck)=_
 rw [if_pos (Int.natCast_nonneg i),if_pos (Int.natCast_nonneg j)]; rfl
noncomputable def CeI (ks:List Key) (nc m k T:Nat) (r:List Int) (_:Option V) (t:MS):Prop:=∃ d,d + r.length≤60∧LBs ks nc (m + 2 * d) (k + d) (T + 16 * d) t
theorem CeI.next {k T:Nat} (n:Nat) (K:KeysFine ks) (h1:1≤nc) (h6:nc≤6) {l:List Int} (hm:m≤500000) (hk:k≤500) {cell:Int}{r:List Int}{y:Option V} (h:CeI ks nc m k T (cell :: r) y u) {Q:Fl×Loc→MS→Prop} (kk:∀ t,CeI ks nc m k T r (some (.int cell)) t→Q (.next,zhb l ks nc (some (.int cell))) t) :
  OkR (exs prog (run prog (n + 6)) (n + 6) [.expr (.bm .append (.loc 4) [.call 121 [.loc 3,.loc 1,.loc 2,.loc 5]])] (zhb l ks nc (some (.int cell))) u) Q:=by
 obtain ⟨d,hd,h⟩:=h
 have hd':d≤60:=Nat.le_trans (Nat.le_add_right _ _) hd
 refine j3 (turn n K h1 h6 (by omega) (by omega) cell h) fun v t q=>zz (kk t ⟨d + 1,?_,?_⟩)
 ·rw [Nat.succ_add]; exact hd
 ·rw [Nat.mul_succ,Nat.mul_succ,← Nat.add_assoc,← Nat.add_assoc,← Nat.add_assoc]; exact q
theorem cells {k T:Nat} (n:Nat) (K:KeysFine ks) (h1:1≤nc) (h6:nc≤6) {l:List Int} (j:Nat) (hj:j≤62) (hm:m≤500000) (hk:k≤500) {a:Option V}{r:List S}{Q:Fl×Loc→MS→Prop} (h:LBs ks nc m k T u)
  (kk:∀ a' t d,d≤60→LBs ks nc (m + 2 * d) (k + d) (T + 16 * d) t→OkR (exs prog (run prog (n + 6)) (n + 6) r (zhb l ks nc a') t) Q) :
  OkR (exs prog (run prog (n + 6)) (n + 6) (.for_ (.inl (.loc 5)) false (.slice (.loc 0) (some (.int (2:Nat))) (some (.int (j:Nat)))) [.expr (.bm .append (.loc 4) [.call 121 [.loc 3,.loc 1,.loc 2,.loc 5]])] :: r) (zhb l ks nc a) u) Q:=by
 refine vx (lx (x:=.lst (l.map .int)) rfl rfl rfl (zph l 2 j u)) rfl rfl (ku V.int (zhb l ks nc) (CeI ks nc m k T) (fun cell r y t q=>⟨rfl,q.next n K h1 h6 hm hk fun t q=>⟨_,rfl,q⟩⟩) (fun y t q=>⟨rfl,?_⟩) _ _ _ ⟨0,?_,h⟩)
 ·obtain ⟨d,hd,h⟩:=q
  exact kk y t d hd h
 ·rw [List.length_drop,List.length_take,Nat.zero_add]
  exact Nat.sub_le_of_le_add (Nat.le_trans (Nat.min_le_left _ _) hj)
end
theorem zwc {d T:Nat} (hd:d≤60) (hT:T≤0 + 16 * d):0 + 2 * d + 30 * T + 5000 < 800000:=by omega
theorem zt9 {d T T1 m1:Nat} (hd:d≤60) (hT:T≤0 + 16 * d) (h1:T1≤T + 48) (h2:m1≤0 + 2 * d + 10 * T + 1000):m1≤500000∧∀ {d3 T3:Nat},d3≤60→T3≤T1 + 16 * d3→m1 + 2 * d3 + 30 * T3 + 5000 < 800000:=⟨by omega,fun _ _=>by omega⟩
theorem law_ok (n:Nat) (l:List Int) (hl:l.length≤63):OkR (run prog (n + 10) 118 [.lst (l.map .int)] st0) fun v _=>v=.bool true:=by
 refine zl (fn:=zo9) rfl rfl ?_
 refine zn (jt (z5 (jt (vs:=[.lst (l.map .int),.int 0]) rfl (zg4 zjg (n + 8) l st0)) rfl) (ze0 zqy (n + 8) _ st0)) rfl ?_
 have K:=ze2 (l.getD 0 0)
 generalize di (l.getD 0 0)=ks at K
 obtain ⟨k0,hk0,ek⟩:=gw (l.getD 1 0) (N:=6) (by decide)
 have e1:ev prog (run prog (n + 9)) (.bin .add (.int 1) (.bin .mod (.call 100 [.loc 0,.int 1]) (.int 6))) [some (.lst (l.map .int)),some (.lst (ks.map .str)),none,none,none,none] st0=.ok (.int (1 + k0:Nat)) st0 :=
  vp (x:=.int 1) (y:=.int (l.getD 1 0 |>.fmod 6)) rfl (vp (x:=.int (l.getD 1 0)) (jt (vs:=[.lst (l.map .int),.int 1]) rfl (zge zjg (n + 8) l st0)) rfl rfl) (congrArg (fun q=>Res.ok (V.int q) st0) (by rw [show (6:Int)=((6:Nat):Int) from rfl,ek]; omega))
 have h1:1≤1 + k0:=by omega
 have h6:1 + k0≤6:=by omega
 generalize 1 + k0=nc at e1 h1 h6
 refine zn e1 rfl ?_
 refine zcl (zpn (vs:=[.lst (ks.map .str),.int nc]) (s1:=st0) rfl (zc5 wp hHP rfl rfl rfl rfl rfl rfl rfl (n + 6) K h1 h6 fun k hk=>rfl)) rfl ?_
 rintro v s2 ⟨rfl,⟨x,a2⟩,-,ck⟩
 have c33:s2.cnt 33=0:=ck 33 (by decide)
 refine zn (v:=.ref (33,s2.cnt 33)) (s':=s2.new 33 (.list [])) rfl rfl ?_
 have b0:LBs ks nc 0 0 0 (s2.new 33 (.list [])):=⟨_,x,[],a2.step ((Fr.refl _ _).new _ _),WR.new K.nd nc,c33 ▸ Snap.new _ _ _,Nat.le_refl _,Nat.le_refl _⟩
 rw [c33]
 refine cells (n + 3) K h1 h6 62 (by decide) (by decide) (by decide) b0 fun a' t d hd h=>?_
 obtain ⟨W,x,bl,h⟩:=h
 have hk1':bl.length≤60:=Nat.le_trans h.l (by rw [Nat.zero_add]; exact hd)
 obtain ⟨v,u1,er,rfl,f1,W1,x1,m1,A1,R1,ht1,hm1'⟩:=qz (mr n h.A K h.R (zwc hd h.T) h6 h.b rfl (Nat.le_trans hk1' (by decide)))
 refine zt (t:=false) (kq (t:=true) (jt (vs:=[.ref (1,0),.lst (ks.map .str),.int nc,.ref (33,0)]) rfl er)) (zi ?_)
 obtain ⟨r1,r2⟩:=zt9 hd h.T ht1 hm1'
 refine cells (n + 3) K h1 h6 32 (by decide) r1 (Nat.le_trans hk1' (by decide)) (m:=m1) (k:=bl.length) (T:=tot W1) ⟨W1,x1,bl,A1,R1,h.b.step f1 (of_decide_eq_true (p:=¬ 33 < 11) rfl),Nat.le_refl _,Nat.le_refl _⟩ fun a3 t3 d3 hd3 h3=>?_
 obtain ⟨W3,x3,bl3,h3⟩:=h3
 obtain ⟨v,u4,e4,rfl,-⟩:=qz (mr n h3.A K h3.R (r2 hd3 h3.T) h6 h3.b rfl (Nat.le_trans h3.l (Nat.le_trans (Nat.add_le_add hk1' hd3) (by decide))))
 exact qa (v:=.bool true) (jt (vs:=[.ref (1,0),.lst (ks.map .str),.int nc,.ref (33,0)]) rfl e4) rfl
end Mine.L15
end
section
open PySem PySem.W PyProof.Rows
set_option maxRecDepth 100000
set_option maxHeartbeats 8000000
namespace Mine.L15
noncomputable abbrev p:Program:=PySem.Challenge.rw_uf030007_15.row.prog
noncomputable def bd:List Stmt:=PySem.Challenge.pw_uf030007_15.main.body
noncomputable def zw (l:List Stmt) (i:Nat):Arguments×List Stmt×Scope:=match l[i]? with
 | some (.FunctionDef _ a b _ _ _ s _ _ _)=>(a,b,s)
 | _=>default
noncomputable def zj (l:List Stmt) (i:Nat):List Stmt:=match l[i]? with
 | some (.ClassDef _ _ _ b _ _ _ _ _ _ _)=>b
 | _=>[]
noncomputable def view:Program:={ PySem.Challenge.pw_uf030007_15 with main:={ PySem.Challenge.pw_uf030007_15.main with body:=([1,3,4,5,6,7,8,9,10,11,12,14,15,16,17,19,21,22,23,24,25,26,28,29,30,31,32,33,34,35,36]:List Nat).filterMap fun i=>bd[i]? } }
noncomputable def tE:Obj:={ cls:=.type "tuple",data:=.seq #[] }
noncomputable def nE:Obj:={ cls:=.none,data:=.fields #[] }
noncomputable def gO (n q:String) (f:Arguments×List Stmt×Scope):Obj:={ cls:=.none,data:=.func { name:=Str.ofString n,qualname:=Str.ofString q,params:=f.1,body:=.stmts f.2.1,scope:=f.2.2,globals:=0,closure:=[],defaults:=.none,kwdefaults:=.none } }
noncomputable def fO (n q:String) (f:Arguments×List Stmt×Scope) (m:String) (t c:Nat):Obj:={ cls:=.type "function",data:=.func { name:=Str.ofString n,qualname:=Str.ofString q,params:=f.1,body:=.stmts f.2.1,scope:=f.2.2,globals:=3,closure:=[],defaults:=.none,kwdefaults:=.none,pyModule:=.str (Str.ofString m) t,code:=.ref c } }
noncomputable def cfO (n q:String) (t k:Nat) (l na:Int) (a b c d e:Value):Obj:={ cls:=.type "code",data:=.fields #[.str (Str.ofString n) t,.str (Str.ofString q) (t + 1),.str "/claim/cut.py" (t + 2),.int l 0,.int na 0,.int 0 0,.int 0 0,.int 3 0,a,.bool true,.int 181 0,b,.none,c,d,e,.int k 0,.int l 0,.str "/claim/cut.py" (k + 1)] }
noncomputable def cO (n q:String) (t a k:Nat) (l na:Int):Obj:=cfO n q t k l na (.ref a) (.ref (a + 1)) (.ref (a + 2)) (.ref (a + 3)) (.ref (a + 4))
noncomputable def kO (n q:String) (t a k:Nat) (l na:Int):Obj:=cfO n q t k l na (.ref a) (.ref (a + 1)) .none .none (.ref (a + 2))
noncomputable def tSs:Nat→List String→List Value
 | _,[]=>[]
 | t,x :: l=>.str (Str.ofString x) t :: tSs (t + 1) l
noncomputable def tS (t:Nat) (l:List String):Obj:={ cls:=.type "tuple",data:=.seq ⟨tSs t l⟩ }
noncomputable def eV (P:Params) (k:String) (t:Nat) (v:Value):DictEntry:={ hash:=PyData.keyHash P (Str.ofString k),key:=.str (Str.ofString k) t,val:=v }
noncomputable def eR (P:Params) (k:String) (t a:Nat):DictEntry:=eV P k t (.ref a)
noncomputable def eS (P:Params) (k:String) (t:Nat) (x:String) (u:Nat):DictEntry:=eV P k t (.str (Str.ofString x) u)
noncomputable def dE (n:Nat) (l:List DictEntry):Obj:={ cls:=.type "dict",data:=.dict ⟨l⟩ n }
noncomputable def pOs:List (Int×Int×Nat)→List Value
 | []=>[]
 | (x,y,z) :: l=>.int x 0 :: .int y 0 :: .ref z :: pOs l
noncomputable def pO (l:List (Int×Int×Nat)):Obj:={ cls:=.none,data:=.fields ⟨pOs l⟩ }
noncomputable def hp (P:Params):List Obj:=(boot_heap P).objs.toList
noncomputable def o13 (P:Params):Obj:={ cls:=.type "code",data:=.fields #[.str "<module>" 182,.str "<module>" 183,.str "/claim/cut.py" 184,.int 1 0,.int 0 0,.int 0 0,.int 0 0,.int 0 0,.ref 11,.bool false,.int 181 0,.ref 12,.none,.none,.none,.none,.int 185 0,.int 1 0,.str "/claim/cut.py" 186] }
noncomputable def hpa (P:Params):List Obj:=(hp P) ++ [tE,nE,o13 P,{ cls:=.type "frame",slots:=#[some (.ref 13),some (.ref 3),some (.ref 3),none,some (.str "__main__" 164),none,some (.ref 0)] }]
noncomputable def Sa (w:World) (os:OsState):Shared:=⟨⟨⟨hpa w.params⟩,{ }⟩,#[],{ },187,os⟩
noncomputable def hpb (P:Params):List Obj:=(hpa P)
noncomputable def Sb (w:World) (os:OsState):Shared:=⟨⟨⟨hpb w.params⟩,{ }⟩,#[],{ },187,os⟩
noncomputable def env:Env:={ scope:=p.main.scope,locals:=mainNs,globals:=mainNs,cells:=[],code:=Value.ref 13,frame:=some 14 }
noncomputable def q:Pos:={ line:=0,col:=0,endLine:=0,endCol:=0 }
noncomputable def l0:List Stmt:=((behindTheImports p).drop 0).take 3
noncomputable def l1:List Stmt:=((behindTheImports p).drop 3).take 2
noncomputable def l2:List Stmt:=((behindTheImports p).drop 5).take 2
noncomputable def l3:List Stmt:=((behindTheImports p).drop 7).take 2
noncomputable def l4:List Stmt:=((behindTheImports p).drop 9).take 2
noncomputable def l5:List Stmt:=((behindTheImports p).drop 11).take 4
noncomputable def l6:List Stmt:=((behindTheImports p).drop 15).take 4
noncomputable def l7:List Stmt:=((behindTheImports p).drop 19).take 1
noncomputable def l8:List Stmt:=((behindTheImports p).drop 20).take 6
noncomputable def l9:List Stmt:=((behindTheImports p).drop 26).take 1
noncomputable def l10:List Stmt:=((behindTheImports p).drop 27).take 10
noncomputable def r11:List Stmt:=[]
noncomputable def r10:List Stmt:=l10 ++ r11
noncomputable def r9:List Stmt:=l9 ++ r10
noncomputable def r8:List Stmt:=l8 ++ r9
noncomputable def r7:List Stmt:=l7 ++ r8
noncomputable def r6:List Stmt:=l6 ++ r7
noncomputable def r5:List Stmt:=l5 ++ r6
noncomputable def r4:List Stmt:=l4 ++ r5
noncomputable def r3:List Stmt:=l3 ++ r4
noncomputable def r2:List Stmt:=l2 ++ r3
noncomputable def r1:List Stmt:=l1 ++ r2
noncomputable def r0:List Stmt:=l0 ++ r1
noncomputable def cd:Code:=.body r0 env
noncomputable def zvz (P:Params):List DictEntry:=[eS P "__name__" (nat_lit 165) "movehouse.errors" (nat_lit 262),eV P "__doc__" (nat_lit 166) .none,eV P "__package__" (nat_lit 167) .none,eV P "__loader__" (nat_lit 168) (.builtin "__main__.__loader__#opaque"),eV P "__spec__" (nat_lit 169) .none,eR P "__annotations__" (nat_lit 170) (nat_lit 6),eR P "__builtins__" (nat_lit 171) (nat_lit 4),eS P "__file__" (nat_lit 173) "/claim/cut.py" (nat_lit 172),eV P "__cached__" (nat_lit 174) .none,eR P "Caller" (nat_lit 261) (nat_lit 66)]
noncomputable def o17 (P:Params):Obj:=dE (nat_lit 10) [eS P "__module__" (nat_lit 196) "movehouse.callers" (nat_lit 187),eS P "__qualname__" (nat_lit 198) "Caller" (nat_lit 197),eV P "__firstlineno__" (nat_lit 200) (.int 2 199),eR P "__init__" (nat_lit 208) (nat_lit 28),eR P "begin" (nat_lit 217) (nat_lit 35),eR P "letter" (nat_lit 226) (nat_lit 42),eR P "came" (nat_lit 235) (nat_lit 49),eR P "asking" (nat_lit 242) (nat_lit 56),eR P "answers" (nat_lit 249) (nat_lit 63),eR P "__static_attributes__" (nat_lit 254) (nat_lit 64)]
noncomputable def o20 (P:Params):Obj:={ cls:=.type "code",data:=.fields #[.str "Caller" 191,.str "Caller" 192,.str "/claim/cut.py" 193,.int 2 0,.int 0 0,.int 0 0,.int 0 0,.int 0 0,.ref 18,.bool false,.int 181 0,.ref 19,.none,.none,.none,.none,.int 194 0,.int 2 0,.str "/claim/cut.py" 195] }
noncomputable def o27 (P:Params):Obj:=cO "__init__" "Caller.__init__" (nat_lit 201) (nat_lit 22) (nat_lit 206) 4 2
noncomputable def o28 (P:Params):Obj:=fO "__init__" "Caller.__init__" (zw (zj bd 1) 0) "movehouse.callers" (nat_lit 187) (nat_lit 27)
noncomputable def o34 (P:Params):Obj:=cO "begin" "Caller.begin" (nat_lit 209) (nat_lit 29) (nat_lit 215) 10 3
noncomputable def o35 (P:Params):Obj:=fO "begin" "Caller.begin" (zw (zj bd 1) 1) "movehouse.callers" (nat_lit 187) (nat_lit 34)
noncomputable def o41 (P:Params):Obj:=cO "letter" "Caller.letter" (nat_lit 218) (nat_lit 36) (nat_lit 224) 15 2
noncomputable def o42 (P:Params):Obj:=fO "letter" "Caller.letter" (zw (zj bd 1) 2) "movehouse.callers" (nat_lit 187) (nat_lit 41)
noncomputable def o48 (P:Params):Obj:=cO "came" "Caller.came" (nat_lit 227) (nat_lit 43) (nat_lit 233) 19 3
noncomputable def o49 (P:Params):Obj:=fO "came" "Caller.came" (zw (zj bd 1) 3) "movehouse.callers" (nat_lit 187) (nat_lit 48)
noncomputable def o55 (P:Params):Obj:=cO "asking" "Caller.asking" (nat_lit 236) (nat_lit 50) (nat_lit 240) 24 1
noncomputable def o56 (P:Params):Obj:=fO "asking" "Caller.asking" (zw (zj bd 1) 4) "movehouse.callers" (nat_lit 187) (nat_lit 55)
noncomputable def o62 (P:Params):Obj:=cO "answers" "Caller.answers" (nat_lit 243) (nat_lit 57) (nat_lit 247) 27 1
noncomputable def o63 (P:Params):Obj:=fO "answers" "Caller.answers" (zw (zj bd 1) 5) "movehouse.callers" (nat_lit 187) (nat_lit 62)
noncomputable def o65 (P:Params):Obj:=dE (nat_lit 4) [eS P "__module__" (nat_lit 196) "movehouse.callers" (nat_lit 187),eV P "__firstlineno__" (nat_lit 200) (.int 2 199),eR P "__init__" (nat_lit 208) (nat_lit 28),eR P "begin" (nat_lit 217) (nat_lit 35),eR P "letter" (nat_lit 226) (nat_lit 42),eR P "came" (nat_lit 235) (nat_lit 49),eR P "asking" (nat_lit 242) (nat_lit 56),eR P "answers" (nat_lit 249) (nat_lit 63),eR P "__static_attributes__" (nat_lit 254) (nat_lit 64),eR P "__dict__" (nat_lit 256) (nat_lit 67),eR P "__weakref__" (nat_lit 258) (nat_lit 68),eV P "__doc__" (nat_lit 259) .none]
noncomputable def o66 (P:Params):Obj:={ cls:=.type "type",data:=.cls { name:=Str.ofString "Caller",bases:=[.type "object"],mro:=[.ref 66,.type "object"],ns:=65,qualname:=Str.ofString "Caller" },slots:=#[none,none,some (.str "Caller" 189),some (.str "Caller" 197),some (.builtin "object.__new__"),some (.bool true)] }
noncomputable def hp0 (P:Params):List Obj:=(((hpb P).set 3 (dE (nat_lit 10) (zvz P))).set 12 (pO [(2,0,20)])) ++ [tE,{ cls:=.type "builtin_function_or_method",data:=.fields #[.builtin "type.__prepare__",.type "type"] },o17 P,tE,pO [(4,4,27),(10,4,34),(15,4,41),(19,4,48),(24,4,55),(27,4,62)],o20 P,{ cls:=.type "frame",slots:=#[some (.ref 20),some (.ref 3),some (.ref 17),none,some (.str "movehouse.callers" 187),none,some (.ref 0)] },tE,nE,tS (nat_lit 204) ["self","number"],tE,gO "__init__" "Caller.__init__" (zw (zj bd 1) 0),o27 P,o28 P,tE,nE,tS (nat_lit 212) ["self","key","wish"],tE,gO "begin" "Caller.begin" (zw (zj bd 1) 1),o34 P,o35 P,tE,nE,tS (nat_lit 221) ["self","house","call"],tE,gO "letter" "Caller.letter" (zw (zj bd 1) 2),o41 P,o42 P,tE,nE,tS (nat_lit 230) ["self","number","told"],tE,gO "came" "Caller.came" (zw (zj bd 1) 3),o48 P,o49 P,tE,nE,tS (nat_lit 239) ["self"],tE,gO "asking" "Caller.asking" (zw (zj bd 1) 4),o55 P,o56 P,tE,nE,tS (nat_lit 246) ["self"],tE,gO "answers" "Caller.answers" (zw (zj bd 1) 5),o62 P,o63 P,tS (nat_lit 250) ["begun","closed","number","open_call"],o65 P,o66 P,{ cls:=.type "getset_descriptor",data:=.fields #[.str "__dict__" 255,.ref 66,.builtin "function.__dict__",.builtin "function.__dict__#set"] },{ cls:=.type "getset_descriptor",data:=.fields #[.str "__weakref__" 257,.ref 66,.builtin "ExceptionGroup.__weakref__",.none] },{ cls:=.type "super",data:=.fields #[.ref 66,.ref 66,.ref 66] },{ cls:=.type "builtin_function_or_method",data:=.fields #[.builtin "object.__init_subclass__",.ref 66] }]
noncomputable def S0 (w:World) (os:OsState):Shared:=⟨⟨⟨hp0 w.params⟩,{ }⟩,#[],{ },264,os⟩
noncomputable def zu9 (P:Params):List DictEntry:=(zvz P) ++ [eR P "MoveError" (nat_lit 281) (nat_lit 80),eR P "BadWorld" (nat_lit 297) (nat_lit 93)]
noncomputable def o73 (P:Params):Obj:=dE (nat_lit 4) [eS P "__module__" (nat_lit 271) "movehouse.errors" (nat_lit 262),eS P "__qualname__" (nat_lit 273) "MoveError" (nat_lit 272),eV P "__firstlineno__" (nat_lit 275) (.int 30 274),eR P "__static_attributes__" (nat_lit 276) (nat_lit 78)]
noncomputable def o76 (P:Params):Obj:={ cls:=.type "code",data:=.fields #[.str "MoveError" 266,.str "MoveError" 267,.str "/claim/cut.py" 268,.int 30 0,.int 0 0,.int 0 0,.int 0 0,.int 0 0,.ref 74,.bool false,.int 181 0,.ref 75,.none,.none,.none,.none,.int 269 0,.int 30 0,.str "/claim/cut.py" 270] }
noncomputable def o79 (P:Params):Obj:=dE (nat_lit 3) [eS P "__module__" (nat_lit 271) "movehouse.errors" (nat_lit 262),eV P "__firstlineno__" (nat_lit 275) (.int 30 274),eR P "__static_attributes__" (nat_lit 276) (nat_lit 78),eR P "__weakref__" (nat_lit 278) (nat_lit 81),eV P "__doc__" (nat_lit 279) .none]
noncomputable def o86 (P:Params):Obj:=dE (nat_lit 4) [eS P "__module__" (nat_lit 289) "movehouse.errors" (nat_lit 262),eS P "__qualname__" (nat_lit 291) "BadWorld" (nat_lit 290),eV P "__firstlineno__" (nat_lit 293) (.int 32 292),eR P "__static_attributes__" (nat_lit 294) (nat_lit 91)]
noncomputable def o89 (P:Params):Obj:={ cls:=.type "code",data:=.fields #[.str "BadWorld" 284,.str "BadWorld" 285,.str "/claim/cut.py" 286,.int 32 0,.int 0 0,.int 0 0,.int 0 0,.int 0 0,.ref 87,.bool false,.int 181 0,.ref 88,.none,.none,.none,.none,.int 287 0,.int 32 0,.str "/claim/cut.py" 288] }
noncomputable def o92 (P:Params):Obj:=dE (nat_lit 2) [eS P "__module__" (nat_lit 289) "movehouse.errors" (nat_lit 262),eV P "__firstlineno__" (nat_lit 293) (.int 32 292),eR P "__static_attributes__" (nat_lit 294) (nat_lit 91),eV P "__doc__" (nat_lit 295) .none]
noncomputable def o93 (P:Params):Obj:={ cls:=.type "type",data:=.cls { name:=Str.ofString "BadWorld",bases:=[.ref 80],mro:=[.ref 93,.ref 80,.type "ValueError",.type "Exception",.type "BaseException",.type "object"],ns:=92,qualname:=Str.ofString "BadWorld" },slots:=#[some (.ref 84),none,some (.str "BadWorld" 282),some (.str "BadWorld" 290),some (.builtin "ValueError.__new__"),some (.bool true)] }
noncomputable def hp1 (P:Params):List Obj:=(((hp0 P).set 3 (dE (nat_lit 12) (zu9 P))).set 12 (pO [(2,0,20),(30,0,76),(32,0,89)])) ++ [{ cls:=.type "tuple",data:=.seq #[.type "ValueError"] },{ cls:=.type "builtin_function_or_method",data:=.fields #[.builtin "type.__prepare__",.type "type"] },o73 P,tE,nE,o76 P,{ cls:=.type "frame",slots:=#[some (.ref 76),some (.ref 3),some (.ref 73),none,some (.str "movehouse.errors" 262),none,some (.ref 0)] },tE,o79 P,{ cls:=.type "type",data:=.cls { name:=Str.ofString "MoveError",bases:=[.type "ValueError"],mro:=[.ref 80,.type "ValueError",.type "Exception",.type "BaseException",.type "object"],ns:=79,qualname:=Str.ofString "MoveError",subclasses:=[.ref 93] },slots:=#[some (.ref 71),none,some (.str "MoveError" 264),some (.str "MoveError" 272),some (.builtin "ValueError.__new__"),some (.bool true)] },{ cls:=.type "getset_descriptor",data:=.fields #[.str "__weakref__" 277,.ref 80,.builtin "ExceptionGroup.__weakref__",.none] },{ cls:=.type "super",data:=.fields #[.ref 80,.ref 80,.ref 80] },{ cls:=.type "builtin_function_or_method",data:=.fields #[.builtin "object.__init_subclass__",.ref 80] },{ cls:=.type "tuple",data:=.seq #[.ref 80] },{ cls:=.type "builtin_function_or_method",data:=.fields #[.builtin "type.__prepare__",.type "type"] },o86 P,tE,nE,o89 P,{ cls:=.type "frame",slots:=#[some (.ref 89),some (.ref 3),some (.ref 86),none,some (.str "movehouse.errors" 262),none,some (.ref 0)] },tE,o92 P,o93 P,{ cls:=.type "super",data:=.fields #[.ref 93,.ref 93,.ref 93] },{ cls:=.type "builtin_function_or_method",data:=.fields #[.builtin "object.__init_subclass__",.ref 93] }]
noncomputable def S1 (w:World) (os:OsState):Shared:=⟨⟨⟨hp1 w.params⟩,{ }⟩,#[],{ },298,os⟩
noncomputable def zry (P:Params):List DictEntry:=(zu9 P) ++ [eR P "NoCaller" (nat_lit 313) (nat_lit 105),eR P "NoHouse" (nat_lit 329) (nat_lit 117)]
noncomputable def o98 (P:Params):Obj:=dE (nat_lit 4) [eS P "__module__" (nat_lit 305) "movehouse.errors" (nat_lit 262),eS P "__qualname__" (nat_lit 307) "NoCaller" (nat_lit 306),eV P "__firstlineno__" (nat_lit 309) (.int 34 308),eR P "__static_attributes__" (nat_lit 310) (nat_lit 103)]
noncomputable def zsd (P:Params):Obj:={ cls:=.type "code",data:=.fields #[.str "NoCaller" 300,.str "NoCaller" 301,.str "/claim/cut.py" 302,.int 34 0,.int 0 0,.int 0 0,.int 0 0,.int 0 0,.ref 99,.bool false,.int 181 0,.ref 100,.none,.none,.none,.none,.int 303 0,.int 34 0,.str "/claim/cut.py" 304] }
noncomputable def zvd (P:Params):Obj:=dE (nat_lit 2) [eS P "__module__" (nat_lit 305) "movehouse.errors" (nat_lit 262),eV P "__firstlineno__" (nat_lit 309) (.int 34 308),eR P "__static_attributes__" (nat_lit 310) (nat_lit 103),eV P "__doc__" (nat_lit 311) .none]
noncomputable def zq3 (P:Params):Obj:={ cls:=.type "type",data:=.cls { name:=Str.ofString "NoCaller",bases:=[.ref 80],mro:=[.ref 105,.ref 80,.type "ValueError",.type "Exception",.type "BaseException",.type "object"],ns:=104,qualname:=Str.ofString "NoCaller" },slots:=#[some (.ref 96),none,some (.str "NoCaller" 298),some (.str "NoCaller" 306),some (.builtin "ValueError.__new__"),some (.bool true)] }
noncomputable def zq6 (P:Params):Obj:=dE (nat_lit 4) [eS P "__module__" (nat_lit 321) "movehouse.errors" (nat_lit 262),eS P "__qualname__" (nat_lit 323) "NoHouse" (nat_lit 322),eV P "__firstlineno__" (nat_lit 325) (.int 36 324),eR P "__static_attributes__" (nat_lit 326) (nat_lit 115)]
noncomputable def zt2 (P:Params):Obj:={ cls:=.type "code",data:=.fields #[.str "NoHouse" 316,.str "NoHouse" 317,.str "/claim/cut.py" 318,.int 36 0,.int 0 0,.int 0 0,.int 0 0,.int 0 0,.ref 111,.bool false,.int 181 0,.ref 112,.none,.none,.none,.none,.int 319 0,.int 36 0,.str "/claim/cut.py" 320] }
noncomputable def zwj (P:Params):Obj:=dE (nat_lit 2) [eS P "__module__" (nat_lit 321) "movehouse.errors" (nat_lit 262),eV P "__firstlineno__" (nat_lit 325) (.int 36 324),eR P "__static_attributes__" (nat_lit 326) (nat_lit 115),eV P "__doc__" (nat_lit 327) .none]
noncomputable def zu0 (P:Params):Obj:={ cls:=.type "type",data:=.cls { name:=Str.ofString "NoHouse",bases:=[.ref 80],mro:=[.ref 117,.ref 80,.type "ValueError",.type "Exception",.type "BaseException",.type "object"],ns:=116,qualname:=Str.ofString "NoHouse" },slots:=#[some (.ref 108),none,some (.str "NoHouse" 314),some (.str "NoHouse" 322),some (.builtin "ValueError.__new__"),some (.bool true)] }
noncomputable def hp2 (P:Params):List Obj:=((((hp1 P).set 3 (dE (nat_lit 14) (zry P))).set 12 (pO [(2,0,20),(30,0,76),(32,0,89),(34,0,101),(36,0,113)])).set 80 ({ cls:=.type "type",data:=.cls { name:=Str.ofString "MoveError",bases:=[.type "ValueError"],mro:=[.ref 80,.type "ValueError",.type "Exception",.type "BaseException",.type "object"],ns:=79,qualname:=Str.ofString "MoveError",subclasses:=[.ref 93,.ref 105,.ref 117] },slots:=#[some (.ref 71),none,some (.str "MoveError" 264),some (.str "MoveError" 272),some (.builtin "ValueError.__new__"),some (.bool true)] })) ++ [{ cls:=.type "tuple",data:=.seq #[.ref 80] },{ cls:=.type "builtin_function_or_method",data:=.fields #[.builtin "type.__prepare__",.type "type"] },o98 P,tE,nE,zsd P,{ cls:=.type "frame",slots:=#[some (.ref 101),some (.ref 3),some (.ref 98),none,some (.str "movehouse.errors" 262),none,some (.ref 0)] },tE,zvd P,zq3 P,{ cls:=.type "super",data:=.fields #[.ref 105,.ref 105,.ref 105] },{ cls:=.type "builtin_function_or_method",data:=.fields #[.builtin "object.__init_subclass__",.ref 105] },{ cls:=.type "tuple",data:=.seq #[.ref 80] },{ cls:=.type "builtin_function_or_method",data:=.fields #[.builtin "type.__prepare__",.type "type"] },zq6 P,tE,nE,zt2 P,{ cls:=.type "frame",slots:=#[some (.ref 113),some (.ref 3),some (.ref 110),none,some (.str "movehouse.errors" 262),none,some (.ref 0)] },tE,zwj P,zu0 P,{ cls:=.type "super",data:=.fields #[.ref 117,.ref 117,.ref 117] },{ cls:=.type "builtin_function_or_method",data:=.fields #[.builtin "object.__init_subclass__",.ref 117] }]
noncomputable def S2 (w:World) (os:OsState):Shared:=⟨⟨⟨hp2 w.params⟩,{ }⟩,#[],{ },330,os⟩
noncomputable def zuz (P:Params):List DictEntry:=(zry P) ++ [eR P "NoKey" (nat_lit 345) (nat_lit 129),eR P "BadWish" (nat_lit 361) (nat_lit 141)]
noncomputable def zvj (P:Params):Obj:=dE (nat_lit 4) [eS P "__module__" (nat_lit 337) "movehouse.errors" (nat_lit 262),eS P "__qualname__" (nat_lit 339) "NoKey" (nat_lit 338),eV P "__firstlineno__" (nat_lit 341) (.int 38 340),eR P "__static_attributes__" (nat_lit 342) (nat_lit 127)]
noncomputable def zsz (P:Params):Obj:={ cls:=.type "code",data:=.fields #[.str "NoKey" 332,.str "NoKey" 333,.str "/claim/cut.py" 334,.int 38 0,.int 0 0,.int 0 0,.int 0 0,.int 0 0,.ref 123,.bool false,.int 181 0,.ref 124,.none,.none,.none,.none,.int 335 0,.int 38 0,.str "/claim/cut.py" 336] }
noncomputable def zu3 (P:Params):Obj:=dE (nat_lit 2) [eS P "__module__" (nat_lit 337) "movehouse.errors" (nat_lit 262),eV P "__firstlineno__" (nat_lit 341) (.int 38 340),eR P "__static_attributes__" (nat_lit 342) (nat_lit 127),eV P "__doc__" (nat_lit 343) .none]
noncomputable def zrb (P:Params):Obj:={ cls:=.type "type",data:=.cls { name:=Str.ofString "NoKey",bases:=[.ref 80],mro:=[.ref 129,.ref 80,.type "ValueError",.type "Exception",.type "BaseException",.type "object"],ns:=128,qualname:=Str.ofString "NoKey" },slots:=#[some (.ref 120),none,some (.str "NoKey" 330),some (.str "NoKey" 338),some (.builtin "ValueError.__new__"),some (.bool true)] }
noncomputable def zts (P:Params):Obj:=dE (nat_lit 4) [eS P "__module__" (nat_lit 353) "movehouse.errors" (nat_lit 262),eS P "__qualname__" (nat_lit 355) "BadWish" (nat_lit 354),eV P "__firstlineno__" (nat_lit 357) (.int 40 356),eR P "__static_attributes__" (nat_lit 358) (nat_lit 139)]
noncomputable def zr7 (P:Params):Obj:={ cls:=.type "code",data:=.fields #[.str "BadWish" 348,.str "BadWish" 349,.str "/claim/cut.py" 350,.int 40 0,.int 0 0,.int 0 0,.int 0 0,.int 0 0,.ref 135,.bool false,.int 181 0,.ref 136,.none,.none,.none,.none,.int 351 0,.int 40 0,.str "/claim/cut.py" 352] }
noncomputable def zvb (P:Params):Obj:=dE (nat_lit 2) [eS P "__module__" (nat_lit 353) "movehouse.errors" (nat_lit 262),eV P "__firstlineno__" (nat_lit 357) (.int 40 356),eR P "__static_attributes__" (nat_lit 358) (nat_lit 139),eV P "__doc__" (nat_lit 359) .none]
noncomputable def zsh (P:Params):Obj:={ cls:=.type "type",data:=.cls { name:=Str.ofString "BadWish",bases:=[.ref 80],mro:=[.ref 141,.ref 80,.type "ValueError",.type "Exception",.type "BaseException",.type "object"],ns:=140,qualname:=Str.ofString "BadWish" },slots:=#[some (.ref 132),none,some (.str "BadWish" 346),some (.str "BadWish" 354),some (.builtin "ValueError.__new__"),some (.bool true)] }
noncomputable def hp3 (P:Params):List Obj:=((((hp2 P).set 3 (dE (nat_lit 16) (zuz P))).set 12 (pO [(2,0,20),(30,0,76),(32,0,89),(34,0,101),(36,0,113),(38,0,125),(40,0,137)])).set 80 ({ cls:=.type "type",data:=.cls { name:=Str.ofString "MoveError",bases:=[.type "ValueError"],mro:=[.ref 80,.type "ValueError",.type "Exception",.type "BaseException",.type "object"],ns:=79,qualname:=Str.ofString "MoveError",subclasses:=[.ref 93,.ref 105,.ref 117,.ref 129,.ref 141] },slots:=#[some (.ref 71),none,some (.str "MoveError" 264),some (.str "MoveError" 272),some (.builtin "ValueError.__new__"),some (.bool true)] })) ++ [{ cls:=.type "tuple",data:=.seq #[.ref 80] },{ cls:=.type "builtin_function_or_method",data:=.fields #[.builtin "type.__prepare__",.type "type"] },zvj P,tE,nE,zsz P,{ cls:=.type "frame",slots:=#[some (.ref 125),some (.ref 3),some (.ref 122),none,some (.str "movehouse.errors" 262),none,some (.ref 0)] },tE,zu3 P,zrb P,{ cls:=.type "super",data:=.fields #[.ref 129,.ref 129,.ref 129] },{ cls:=.type "builtin_function_or_method",data:=.fields #[.builtin "object.__init_subclass__",.ref 129] },{ cls:=.type "tuple",data:=.seq #[.ref 80] },{ cls:=.type "builtin_function_or_method",data:=.fields #[.builtin "type.__prepare__",.type "type"] },zts P,tE,nE,zr7 P,{ cls:=.type "frame",slots:=#[some (.ref 137),some (.ref 3),some (.ref 134),none,some (.str "movehouse.errors" 262),none,some (.ref 0)] },tE,zvb P,zsh P,{ cls:=.type "super",data:=.fields #[.ref 141,.ref 141,.ref 141] },{ cls:=.type "builtin_function_or_method",data:=.fields #[.builtin "object.__init_subclass__",.ref 141] }]
noncomputable def S3 (w:World) (os:OsState):Shared:=⟨⟨⟨hp3 w.params⟩,{ }⟩,#[],{ },362,os⟩
noncomputable def zvu (P:Params):List DictEntry:=(zuz P) ++ [eR P "Busy" (nat_lit 377) (nat_lit 153),eR P "Idle" (nat_lit 393) (nat_lit 165)]
noncomputable def zrd (P:Params):Obj:=dE (nat_lit 4) [eS P "__module__" (nat_lit 369) "movehouse.errors" (nat_lit 262),eS P "__qualname__" (nat_lit 371) "Busy" (nat_lit 370),eV P "__firstlineno__" (nat_lit 373) (.int 42 372),eR P "__static_attributes__" (nat_lit 374) (nat_lit 151)]
noncomputable def ztt (P:Params):Obj:={ cls:=.type "code",data:=.fields #[.str "Busy" 364,.str "Busy" 365,.str "/claim/cut.py" 366,.int 42 0,.int 0 0,.int 0 0,.int 0 0,.int 0 0,.ref 147,.bool false,.int 181 0,.ref 148,.none,.none,.none,.none,.int 367 0,.int 42 0,.str "/claim/cut.py" 368] }
noncomputable def zvp (P:Params):Obj:=dE (nat_lit 2) [eS P "__module__" (nat_lit 369) "movehouse.errors" (nat_lit 262),eV P "__firstlineno__" (nat_lit 373) (.int 42 372),eR P "__static_attributes__" (nat_lit 374) (nat_lit 151),eV P "__doc__" (nat_lit 375) .none]
noncomputable def zty (P:Params):Obj:={ cls:=.type "type",data:=.cls { name:=Str.ofString "Busy",bases:=[.ref 80],mro:=[.ref 153,.ref 80,.type "ValueError",.type "Exception",.type "BaseException",.type "object"],ns:=152,qualname:=Str.ofString "Busy" },slots:=#[some (.ref 144),none,some (.str "Busy" 362),some (.str "Busy" 370),some (.builtin "ValueError.__new__"),some (.bool true)] }
noncomputable def zri (P:Params):Obj:=dE (nat_lit 4) [eS P "__module__" (nat_lit 385) "movehouse.errors" (nat_lit 262),eS P "__qualname__" (nat_lit 387) "Idle" (nat_lit 386),eV P "__firstlineno__" (nat_lit 389) (.int 44 388),eR P "__static_attributes__" (nat_lit 390) (nat_lit 163)]
noncomputable def zr1 (P:Params):Obj:={ cls:=.type "code",data:=.fields #[.str "Idle" 380,.str "Idle" 381,.str "/claim/cut.py" 382,.int 44 0,.int 0 0,.int 0 0,.int 0 0,.int 0 0,.ref 159,.bool false,.int 181 0,.ref 160,.none,.none,.none,.none,.int 383 0,.int 44 0,.str "/claim/cut.py" 384] }
noncomputable def zsy (P:Params):Obj:=dE (nat_lit 2) [eS P "__module__" (nat_lit 385) "movehouse.errors" (nat_lit 262),eV P "__firstlineno__" (nat_lit 389) (.int 44 388),eR P "__static_attributes__" (nat_lit 390) (nat_lit 163),eV P "__doc__" (nat_lit 391) .none]
noncomputable def zt0 (P:Params):Obj:={ cls:=.type "type",data:=.cls { name:=Str.ofString "Idle",bases:=[.ref 80],mro:=[.ref 165,.ref 80,.type "ValueError",.type "Exception",.type "BaseException",.type "object"],ns:=164,qualname:=Str.ofString "Idle" },slots:=#[some (.ref 156),none,some (.str "Idle" 378),some (.str "Idle" 386),some (.builtin "ValueError.__new__"),some (.bool true)] }
noncomputable def hp4 (P:Params):List Obj:=((((hp3 P).set 3 (dE (nat_lit 18) (zvu P))).set 12 (pO [(2,0,20),(30,0,76),(32,0,89),(34,0,101),(36,0,113),(38,0,125),(40,0,137),(42,0,149),(44,0,161)])).set 80 ({ cls:=.type "type",data:=.cls { name:=Str.ofString "MoveError",bases:=[.type "ValueError"],mro:=[.ref 80,.type "ValueError",.type "Exception",.type "BaseException",.type "object"],ns:=79,qualname:=Str.ofString "MoveError",subclasses:=[.ref 93,.ref 105,.ref 117,.ref 129,.ref 141,.ref 153,.ref 165] },slots:=#[some (.ref 71),none,some (.str "MoveError" 264),some (.str "MoveError" 272),some (.builtin "ValueError.__new__"),some (.bool true)] })) ++ [{ cls:=.type "tuple",data:=.seq #[.ref 80] },{ cls:=.type "builtin_function_or_method",data:=.fields #[.builtin "type.__prepare__",.type "type"] },zrd P,tE,nE,ztt P,{ cls:=.type "frame",slots:=#[some (.ref 149),some (.ref 3),some (.ref 146),none,some (.str "movehouse.errors" 262),none,some (.ref 0)] },tE,zvp P,zty P,{ cls:=.type "super",data:=.fields #[.ref 153,.ref 153,.ref 153] },{ cls:=.type "builtin_function_or_method",data:=.fields #[.builtin "object.__init_subclass__",.ref 153] },{ cls:=.type "tuple",data:=.seq #[.ref 80] },{ cls:=.type "builtin_function_or_method",data:=.fields #[.builtin "type.__prepare__",.type "type"] },zri P,tE,nE,zr1 P,{ cls:=.type "frame",slots:=#[some (.ref 161),some (.ref 3),some (.ref 158),none,some (.str "movehouse.errors" 262),none,some (.ref 0)] },tE,zsy P,zt0 P,{ cls:=.type "super",data:=.fields #[.ref 165,.ref 165,.ref 165] },{ cls:=.type "builtin_function_or_method",data:=.fields #[.builtin "object.__init_subclass__",.ref 165] }]
noncomputable def S4 (w:World) (os:OsState):Shared:=⟨⟨⟨hp4 w.params⟩,{ }⟩,#[],{ },394,os⟩
noncomputable def zwm (P:Params):List DictEntry:=((zvu P).set 0 (eS P "__name__" (nat_lit 165) "movehouse.desk" (nat_lit 426))) ++ [eR P "NotHere" (nat_lit 409) (nat_lit 177),eR P "NoLetter" (nat_lit 425) (nat_lit 189),eV P "GREATEST" (nat_lit 431) (.int 1000000000000000000000000000000 430)]
noncomputable def o80 (P:Params):Obj:={ cls:=.type "type",data:=.cls { name:=Str.ofString "MoveError",bases:=[.type "ValueError"],mro:=[.ref 80,.type "ValueError",.type "Exception",.type "BaseException",.type "object"],ns:=79,qualname:=Str.ofString "MoveError",subclasses:=[.ref 93,.ref 105,.ref 117,.ref 129,.ref 141,.ref 153,.ref 165,.ref 177,.ref 189] },slots:=#[some (.ref 71),none,some (.str "MoveError" 264),some (.str "MoveError" 272),some (.builtin "ValueError.__new__"),some (.bool true)] }
noncomputable def zt7 (P:Params):Obj:=dE (nat_lit 4) [eS P "__module__" (nat_lit 401) "movehouse.errors" (nat_lit 262),eS P "__qualname__" (nat_lit 403) "NotHere" (nat_lit 402),eV P "__firstlineno__" (nat_lit 405) (.int 46 404),eR P "__static_attributes__" (nat_lit 406) (nat_lit 175)]
noncomputable def ztm (P:Params):Obj:={ cls:=.type "code",data:=.fields #[.str "NotHere" 396,.str "NotHere" 397,.str "/claim/cut.py" 398,.int 46 0,.int 0 0,.int 0 0,.int 0 0,.int 0 0,.ref 171,.bool false,.int 181 0,.ref 172,.none,.none,.none,.none,.int 399 0,.int 46 0,.str "/claim/cut.py" 400] }
noncomputable def zve (P:Params):Obj:=dE (nat_lit 2) [eS P "__module__" (nat_lit 401) "movehouse.errors" (nat_lit 262),eV P "__firstlineno__" (nat_lit 405) (.int 46 404),eR P "__static_attributes__" (nat_lit 406) (nat_lit 175),eV P "__doc__" (nat_lit 407) .none]
noncomputable def zst (P:Params):Obj:={ cls:=.type "type",data:=.cls { name:=Str.ofString "NotHere",bases:=[.ref 80],mro:=[.ref 177,.ref 80,.type "ValueError",.type "Exception",.type "BaseException",.type "object"],ns:=176,qualname:=Str.ofString "NotHere" },slots:=#[some (.ref 168),none,some (.str "NotHere" 394),some (.str "NotHere" 402),some (.builtin "ValueError.__new__"),some (.bool true)] }
noncomputable def zru (P:Params):Obj:=dE (nat_lit 4) [eS P "__module__" (nat_lit 417) "movehouse.errors" (nat_lit 262),eS P "__qualname__" (nat_lit 419) "NoLetter" (nat_lit 418),eV P "__firstlineno__" (nat_lit 421) (.int 48 420),eR P "__static_attributes__" (nat_lit 422) (nat_lit 187)]
noncomputable def zrw (P:Params):Obj:={ cls:=.type "code",data:=.fields #[.str "NoLetter" 412,.str "NoLetter" 413,.str "/claim/cut.py" 414,.int 48 0,.int 0 0,.int 0 0,.int 0 0,.int 0 0,.ref 183,.bool false,.int 181 0,.ref 184,.none,.none,.none,.none,.int 415 0,.int 48 0,.str "/claim/cut.py" 416] }
noncomputable def zui (P:Params):Obj:=dE (nat_lit 2) [eS P "__module__" (nat_lit 417) "movehouse.errors" (nat_lit 262),eV P "__firstlineno__" (nat_lit 421) (.int 48 420),eR P "__static_attributes__" (nat_lit 422) (nat_lit 187),eV P "__doc__" (nat_lit 423) .none]
noncomputable def zsq (P:Params):Obj:={ cls:=.type "type",data:=.cls { name:=Str.ofString "NoLetter",bases:=[.ref 80],mro:=[.ref 189,.ref 80,.type "ValueError",.type "Exception",.type "BaseException",.type "object"],ns:=188,qualname:=Str.ofString "NoLetter" },slots:=#[some (.ref 180),none,some (.str "NoLetter" 410),some (.str "NoLetter" 418),some (.builtin "ValueError.__new__"),some (.bool true)] }
noncomputable def hp5 (P:Params):List Obj:=((((hp4 P).set 3 (dE (nat_lit 21) (zwm P))).set 12 (pO [(2,0,20),(30,0,76),(32,0,89),(34,0,101),(36,0,113),(38,0,125),(40,0,137),(42,0,149),(44,0,161),(46,0,173),(48,0,185)])).set 80 (o80 P)) ++ [{ cls:=.type "tuple",data:=.seq #[.ref 80] },{ cls:=.type "builtin_function_or_method",data:=.fields #[.builtin "type.__prepare__",.type "type"] },zt7 P,tE,nE,ztm P,{ cls:=.type "frame",slots:=#[some (.ref 173),some (.ref 3),some (.ref 170),none,some (.str "movehouse.errors" 262),none,some (.ref 0)] },tE,zve P,zst P,{ cls:=.type "super",data:=.fields #[.ref 177,.ref 177,.ref 177] },{ cls:=.type "builtin_function_or_method",data:=.fields #[.builtin "object.__init_subclass__",.ref 177] },{ cls:=.type "tuple",data:=.seq #[.ref 80] },{ cls:=.type "builtin_function_or_method",data:=.fields #[.builtin "type.__prepare__",.type "type"] },zru P,tE,nE,zrw P,{ cls:=.type "frame",slots:=#[some (.ref 185),some (.ref 3),some (.ref 182),none,some (.str "movehouse.errors" 262),none,some (.ref 0)] },tE,zui P,zsq P,{ cls:=.type "super",data:=.fields #[.ref 189,.ref 189,.ref 189] },{ cls:=.type "builtin_function_or_method",data:=.fields #[.builtin "object.__init_subclass__",.ref 189] }]
noncomputable def S5 (w:World) (os:OsState):Shared:=⟨⟨⟨hp5 w.params⟩,{ }⟩,#[],{ },432,os⟩
noncomputable def zrc (P:Params):List DictEntry:=((zwm P).set 0 (eS P "__name__" (nat_lit 165) "movehouse.houses" (nat_lit 454))) ++ [eR P "is_whole" (nat_lit 438) (nat_lit 198),eR P "need_wish" (nat_lit 445) (nat_lit 205),eR P "done" (nat_lit 453) (nat_lit 212)]
noncomputable def zq9 (P:Params):Obj:=cO "is_whole" "is_whole" (nat_lit 432) (nat_lit 192) (nat_lit 436) 52 1
noncomputable def zq7 (P:Params):Obj:=fO "is_whole" "is_whole" (zw bd 15) "movehouse.desk" (nat_lit 426) (nat_lit 197)
noncomputable def zt3 (P:Params):Obj:=cO "need_wish" "need_wish" (nat_lit 439) (nat_lit 199) (nat_lit 443) 54 1
noncomputable def zwn (P:Params):Obj:=fO "need_wish" "need_wish" (zw bd 16) "movehouse.desk" (nat_lit 426) (nat_lit 204)
noncomputable def zvx (P:Params):Obj:=cO "done" "done" (nat_lit 446) (nat_lit 206) (nat_lit 451) 63 2
noncomputable def ztc (P:Params):Obj:=fO "done" "done" (zw bd 17) "movehouse.desk" (nat_lit 426) (nat_lit 211)
noncomputable def hp6 (P:Params):List Obj:=(((hp5 P).set 3 (dE (nat_lit 24) (zrc P))).set 12 (pO [(2,0,20),(30,0,76),(32,0,89),(34,0,101),(36,0,113),(38,0,125),(40,0,137),(42,0,149),(44,0,161),(46,0,173),(48,0,185),(52,0,197),(54,0,204),(63,0,211)])) ++ [tE,nE,tS (nat_lit 435) ["thing"],tE,gO "is_whole" "is_whole" (zw bd 15),zq9 P,zq7 P,tE,nE,tS (nat_lit 442) ["wish"],tE,gO "need_wish" "need_wish" (zw bd 16),zt3 P,zwn P,tE,nE,tS (nat_lit 449) ["amount","wish"],tE,gO "done" "done" (zw bd 17),zvx P,ztc P]
noncomputable def S6 (w:World) (os:OsState):Shared:=⟨⟨⟨hp6 w.params⟩,{ }⟩,#[],{ },456,os⟩
noncomputable def ztk (P:Params):List DictEntry:=(zrc P) ++ [eR P "House" (nat_lit 558) (nat_lit 286)]
noncomputable def zv3 (P:Params):Obj:=dE (nat_lit 14) [eS P "__module__" (nat_lit 463) "movehouse.houses" (nat_lit 454),eS P "__qualname__" (nat_lit 465) "House" (nat_lit 464),eV P "__firstlineno__" (nat_lit 467) (.int 70 466),eR P "__init__" (nat_lit 477) (nat_lit 226),eR P "has" (nat_lit 485) (nat_lit 233),eR P "owes" (nat_lit 491) (nat_lit 238),eR P "came" (nat_lit 500) (nat_lit 245),eR P "called" (nat_lit 506) (nat_lit 250),eR P "parcel" (nat_lit 515) (nat_lit 257),eR P "move" (nat_lit 524) (nat_lit 264),eR P "write" (nat_lit 532) (nat_lit 271),eR P "sleep" (nat_lit 539) (nat_lit 278),eR P "nudge" (nat_lit 545) (nat_lit 283),eR P "__static_attributes__" (nat_lit 551) (nat_lit 284)]
noncomputable def zrq (P:Params):Obj:={ cls:=.type "code",data:=.fields #[.str "House" 458,.str "House" 459,.str "/claim/cut.py" 460,.int 70 0,.int 0 0,.int 0 0,.int 0 0,.int 0 0,.ref 216,.bool false,.int 181 0,.ref 217,.none,.none,.none,.none,.int 461 0,.int 70 0,.str "/claim/cut.py" 462] }
noncomputable def zu7 (P:Params):Obj:=cO "__init__" "House.__init__" (nat_lit 468) (nat_lit 220) (nat_lit 475) 72 3
noncomputable def ztx (P:Params):Obj:=fO "__init__" "House.__init__" (zw (zj bd 19) 0) "movehouse.houses" (nat_lit 454) (nat_lit 225)
noncomputable def zv4 (P:Params):Obj:=cO "has" "House.has" (nat_lit 478) (nat_lit 227) (nat_lit 483) 83 2
noncomputable def zvo (P:Params):Obj:=fO "has" "House.has" (zw (zj bd 19) 1) "movehouse.houses" (nat_lit 454) (nat_lit 232)
noncomputable def zsa (P:Params):Obj:=kO "owes" "House.owes" (nat_lit 486) (nat_lit 234) (nat_lit 489) 86 1
noncomputable def zsv (P:Params):Obj:=fO "owes" "House.owes" (zw (zj bd 19) 2) "movehouse.houses" (nat_lit 454) (nat_lit 237)
noncomputable def zuq (P:Params):Obj:=cO "came" "House.came" (nat_lit 492) (nat_lit 239) (nat_lit 498) 89 2
noncomputable def ztq (P:Params):Obj:=fO "came" "House.came" (zw (zj bd 19) 3) "movehouse.houses" (nat_lit 454) (nat_lit 244)
noncomputable def zux (P:Params):Obj:=kO "called" "House.called" (nat_lit 501) (nat_lit 246) (nat_lit 504) 102 5
noncomputable def zwl (P:Params):Obj:=fO "called" "House.called" (zw (zj bd 19) 4) "movehouse.houses" (nat_lit 454) (nat_lit 249)
noncomputable def zt8 (P:Params):Obj:=cO "parcel" "House.parcel" (nat_lit 507) (nat_lit 251) (nat_lit 513) 116 3
noncomputable def zu2 (P:Params):Obj:=fO "parcel" "House.parcel" (zw (zj bd 19) 5) "movehouse.houses" (nat_lit 454) (nat_lit 256)
noncomputable def zrr (P:Params):Obj:=cO "move" "House.move" (nat_lit 516) (nat_lit 258) (nat_lit 522) 119 2
noncomputable def zsp (P:Params):Obj:=fO "move" "House.move" (zw (zj bd 19) 6) "movehouse.houses" (nat_lit 454) (nat_lit 263)
noncomputable def zrk (P:Params):Obj:=cO "write" "House.write" (nat_lit 525) (nat_lit 265) (nat_lit 530) 126 1
noncomputable def zv7 (P:Params):Obj:=fO "write" "House.write" (zw (zj bd 19) 7) "movehouse.houses" (nat_lit 454) (nat_lit 270)
noncomputable def zq8 (P:Params):Obj:=cO "sleep" "House.sleep" (nat_lit 533) (nat_lit 272) (nat_lit 537) 133 1
noncomputable def zre (P:Params):Obj:=fO "sleep" "House.sleep" (zw (zj bd 19) 8) "movehouse.houses" (nat_lit 454) (nat_lit 277)
noncomputable def ztv (P:Params):Obj:=kO "nudge" "House.nudge" (nat_lit 540) (nat_lit 279) (nat_lit 543) 138 1
noncomputable def zwh (P:Params):Obj:=fO "nudge" "House.nudge" (zw (zj bd 19) 9) "movehouse.houses" (nat_lit 454) (nat_lit 282)
noncomputable def zwe (P:Params):Obj:=dE (nat_lit 4) [eS P "__module__" (nat_lit 463) "movehouse.houses" (nat_lit 454),eV P "__firstlineno__" (nat_lit 467) (.int 70 466),eR P "__init__" (nat_lit 477) (nat_lit 226),eR P "has" (nat_lit 485) (nat_lit 233),eR P "owes" (nat_lit 491) (nat_lit 238),eR P "came" (nat_lit 500) (nat_lit 245),eR P "called" (nat_lit 506) (nat_lit 250),eR P "parcel" (nat_lit 515) (nat_lit 257),eR P "move" (nat_lit 524) (nat_lit 264),eR P "write" (nat_lit 532) (nat_lit 271),eR P "sleep" (nat_lit 539) (nat_lit 278),eR P "nudge" (nat_lit 545) (nat_lit 283),eR P "__static_attributes__" (nat_lit 551) (nat_lit 284),eR P "__dict__" (nat_lit 553) (nat_lit 287),eR P "__weakref__" (nat_lit 555) (nat_lit 288),eV P "__doc__" (nat_lit 556) .none]
noncomputable def zvr (P:Params):Obj:={ cls:=.type "type",data:=.cls { name:=Str.ofString "House",bases:=[.type "object"],mro:=[.ref 286,.type "object"],ns:=285,qualname:=Str.ofString "House" },slots:=#[none,none,some (.str "House" 456),some (.str "House" 464),some (.builtin "object.__new__"),some (.bool true)] }
noncomputable def hp7 (P:Params):List Obj:=(((hp6 P).set 3 (dE (nat_lit 25) (ztk P))).set 12 (pO [(2,0,20),(30,0,76),(32,0,89),(34,0,101),(36,0,113),(38,0,125),(40,0,137),(42,0,149),(44,0,161),(46,0,173),(48,0,185),(52,0,197),(54,0,204),(63,0,211),(70,0,218)])) ++ [tE,{ cls:=.type "builtin_function_or_method",data:=.fields #[.builtin "type.__prepare__",.type "type"] },zv3 P,tE,pO [(72,4,225),(83,4,232),(86,4,237),(89,4,244),(102,4,249),(116,4,256),(119,4,263),(126,4,270),(133,4,277),(138,4,282)],zrq P,{ cls:=.type "frame",slots:=#[some (.ref 218),some (.ref 3),some (.ref 215),none,some (.str "movehouse.houses" 454),none,some (.ref 0)] },tE,nE,tS (nat_lit 471) ["self","number","keys","key"],tE,gO "__init__" "House.__init__" (zw (zj bd 19) 0),zu7 P,ztx P,tE,nE,tS (nat_lit 481) ["self","key"],tE,gO "has" "House.has" (zw (zj bd 19) 1),zv4 P,zvo P,tE,nE,gO "owes" "House.owes" (zw (zj bd 19) 2),zsa P,zsv P,tE,nE,tS (nat_lit 495) ["self","letter","one"],tE,gO "came" "House.came" (zw (zj bd 19) 3),zuq P,ztq P,tE,nE,gO "called" "House.called" (zw (zj bd 19) 4),zux P,zwl P,tE,nE,tS (nat_lit 510) ["self","key","one"],tE,gO "parcel" "House.parcel" (zw (zj bd 19) 5),zt8 P,zu2 P,tE,nE,tS (nat_lit 519) ["self","key","one"],tE,gO "move" "House.move" (zw (zj bd 19) 6),zrr P,zsp P,tE,nE,tS (nat_lit 528) ["self","found"],tE,gO "write" "House.write" (zw (zj bd 19) 7),zrk P,zv7 P,tE,nE,tS (nat_lit 536) ["self"],tE,gO "sleep" "House.sleep" (zw (zj bd 19) 8),zq8 P,zre P,tE,nE,gO "nudge" "House.nudge" (zw (zj bd 19) 9),ztv P,zwh P,tS (nat_lit 546) ["fresh","known","laid","number","written"],zwe P,zvr P,{ cls:=.type "getset_descriptor",data:=.fields #[.str "__dict__" 552,.ref 286,.builtin "function.__dict__",.builtin "function.__dict__#set"] },{ cls:=.type "getset_descriptor",data:=.fields #[.str "__weakref__" 554,.ref 286,.builtin "ExceptionGroup.__weakref__",.none] },{ cls:=.type "super",data:=.fields #[.ref 286,.ref 286,.ref 286] },{ cls:=.type "builtin_function_or_method",data:=.fields #[.builtin "object.__init_subclass__",.ref 286] }]
noncomputable def S7 (w:World) (os:OsState):Shared:=⟨⟨⟨hp7 w.params⟩,{ }⟩,#[],{ },559,os⟩
noncomputable def zva (P:Params):List DictEntry:=((ztk P).set 0 (eS P "__name__" (nat_lit 165) "movehouse.world" (nat_lit 559))) ++ [eS P "LETTERS" (nat_lit 562) "abcdefghijklmnopqrstuvwxyz" (nat_lit 561),eV P "MOST" (nat_lit 564) (.int 6 563),eV P "LONGEST" (nat_lit 566) (.int 8 565),eR P "is_key" (nat_lit 574) (nat_lit 297),eR P "need_world" (nat_lit 583) (nat_lit 304)]
noncomputable def zsx (P:Params):Obj:=cO "is_key" "is_key" (nat_lit 567) (nat_lit 291) (nat_lit 572) 144 1
noncomputable def zuh (P:Params):Obj:=fO "is_key" "is_key" (zw bd 24) "movehouse.world" (nat_lit 559) (nat_lit 296)
noncomputable def zsu (P:Params):Obj:=cO "need_world" "need_world" (nat_lit 575) (nat_lit 298) (nat_lit 581) 151 2
noncomputable def zte (P:Params):Obj:=fO "need_world" "need_world" (zw bd 25) "movehouse.world" (nat_lit 559) (nat_lit 303)
noncomputable def hp8 (P:Params):List Obj:=(((hp7 P).set 3 (dE (nat_lit 30) (zva P))).set 12 (pO [(2,0,20),(30,0,76),(32,0,89),(34,0,101),(36,0,113),(38,0,125),(40,0,137),(42,0,149),(44,0,161),(46,0,173),(48,0,185),(52,0,197),(54,0,204),(63,0,211),(70,0,218),(144,0,296),(151,0,303)])) ++ [tE,nE,tS (nat_lit 570) ["thing","sign"],tE,gO "is_key" "is_key" (zw bd 24),zsx P,zuh P,tE,nE,tS (nat_lit 578) ["keys","callers","k"],tE,gO "need_world" "need_world" (zw bd 25),zsu P,zte P]
noncomputable def S8 (w:World) (os:OsState):Shared:=⟨⟨⟨hp8 w.params⟩,{ }⟩,#[],{ },584,os⟩
noncomputable def zr3 (P:Params):List DictEntry:=(zva P) ++ [eR P "World" (nat_lit 815) (nat_lit 487)]
noncomputable def zuk (P:Params):Obj:=dE (nat_lit 29) [eS P "__module__" (nat_lit 591) "movehouse.world" (nat_lit 559),eS P "__qualname__" (nat_lit 593) "World" (nat_lit 592),eV P "__firstlineno__" (nat_lit 595) (.int 159 594),eR P "__init__" (nat_lit 601) (nat_lit 316),eR P "need_caller" (nat_lit 609) (nat_lit 323),eR P "need_house" (nat_lit 617) (nat_lit 330),eR P "need_key" (nat_lit 625) (nat_lit 337),eR P "need_place" (nat_lit 633) (nat_lit 344),eR P "call" (nat_lit 645) (nat_lit 351),eR P "again" (nat_lit 654) (nat_lit 358),eR P "letters" (nat_lit 661) (nat_lit 365),eR P "brought" (nat_lit 669) (nat_lit 372),eR P "hand" (nat_lit 677) (nat_lit 379),eR P "twice" (nat_lit 685) (nat_lit 386),eR P "lose" (nat_lit 693) (nat_lit 393),eR P "home" (nat_lit 702) (nat_lit 400),eR P "move" (nat_lit 711) (nat_lit 407),eR P "has" (nat_lit 720) (nat_lit 414),eR P "write" (nat_lit 729) (nat_lit 421),eR P "sleep" (nat_lit 737) (nat_lit 428),eR P "nudge" (nat_lit 745) (nat_lit 435),eR P "ledger" (nat_lit 752) (nat_lit 442),eR P "asking" (nat_lit 760) (nat_lit 449),eR P "answers" (nat_lit 768) (nat_lit 456),eR P "owes" (nat_lit 776) (nat_lit 463),eR P "is_settled" (nat_lit 784) (nat_lit 470),eR P "one_round" (nat_lit 794) (nat_lit 477),eR P "settle" (nat_lit 802) (nat_lit 484),eR P "__static_attributes__" (nat_lit 808) (nat_lit 485)]
noncomputable def zvy (P:Params):Obj:={ cls:=.type "code",data:=.fields #[.str "World" 586,.str "World" 587,.str "/claim/cut.py" 588,.int 159 0,.int 0 0,.int 0 0,.int 0 0,.int 0 0,.ref 308,.bool false,.int 181 0,.ref 309,.none,.none,.none,.none,.int 589 0,.int 159 0,.str "/claim/cut.py" 590] }
noncomputable def zuo (P:Params):Obj:=kO "__init__" "World.__init__" (nat_lit 596) (nat_lit 312) (nat_lit 599) 161 3
noncomputable def zwk (P:Params):Obj:=fO "__init__" "World.__init__" (zw (zj bd 26) 0) "movehouse.world" (nat_lit 559) (nat_lit 315)
noncomputable def zwi (P:Params):Obj:=cO "need_caller" "World.need_caller" (nat_lit 602) (nat_lit 317) (nat_lit 607) 169 2
noncomputable def ztj (P:Params):Obj:=fO "need_caller" "World.need_caller" (zw (zj bd 26) 1) "movehouse.world" (nat_lit 559) (nat_lit 322)
noncomputable def zwa (P:Params):Obj:=cO "need_house" "World.need_house" (nat_lit 610) (nat_lit 324) (nat_lit 615) 173 2
noncomputable def zrz (P:Params):Obj:=fO "need_house" "World.need_house" (zw (zj bd 26) 2) "movehouse.world" (nat_lit 559) (nat_lit 329)
noncomputable def zs6 (P:Params):Obj:=cO "need_key" "World.need_key" (nat_lit 618) (nat_lit 331) (nat_lit 623) 177 2
noncomputable def zrl (P:Params):Obj:=fO "need_key" "World.need_key" (zw (zj bd 26) 3) "movehouse.world" (nat_lit 559) (nat_lit 336)
noncomputable def zq5 (P:Params):Obj:=cO "need_place" "World.need_place" (nat_lit 626) (nat_lit 338) (nat_lit 631) 181 2
noncomputable def zua (P:Params):Obj:=fO "need_place" "World.need_place" (zw (zj bd 26) 4) "movehouse.world" (nat_lit 559) (nat_lit 343)
noncomputable def ztf (P:Params):Obj:=cO "call" "World.call" (nat_lit 634) (nat_lit 345) (nat_lit 643) 185 5
noncomputable def zra (P:Params):Obj:=fO "call" "World.call" (zw (zj bd 26) 5) "movehouse.world" (nat_lit 559) (nat_lit 350)
noncomputable def zta (P:Params):Obj:=cO "again" "World.again" (nat_lit 646) (nat_lit 352) (nat_lit 652) 196 3
noncomputable def zq2 (P:Params):Obj:=fO "again" "World.again" (zw (zj bd 26) 6) "movehouse.world" (nat_lit 559) (nat_lit 357)
noncomputable def zvw (P:Params):Obj:=cO "letters" "World.letters" (nat_lit 655) (nat_lit 359) (nat_lit 659) 203 1
noncomputable def zus (P:Params):Obj:=fO "letters" "World.letters" (zw (zj bd 26) 7) "movehouse.world" (nat_lit 559) (nat_lit 364)
noncomputable def zv2 (P:Params):Obj:=cO "brought" "World.brought" (nat_lit 662) (nat_lit 366) (nat_lit 667) 206 2
noncomputable def zs1 (P:Params):Obj:=fO "brought" "World.brought" (zw (zj bd 26) 8) "movehouse.world" (nat_lit 559) (nat_lit 371)
noncomputable def zur (P:Params):Obj:=cO "hand" "World.hand" (nat_lit 670) (nat_lit 373) (nat_lit 675) 212 2
noncomputable def zvv (P:Params):Obj:=fO "hand" "World.hand" (zw (zj bd 26) 9) "movehouse.world" (nat_lit 559) (nat_lit 378)
noncomputable def zu4 (P:Params):Obj:=cO "twice" "World.twice" (nat_lit 678) (nat_lit 380) (nat_lit 683) 216 2
noncomputable def zvm (P:Params):Obj:=fO "twice" "World.twice" (zw (zj bd 26) 10) "movehouse.world" (nat_lit 559) (nat_lit 385)
noncomputable def zud (P:Params):Obj:=cO "lose" "World.lose" (nat_lit 686) (nat_lit 387) (nat_lit 691) 220 2
noncomputable def zwb (P:Params):Obj:=fO "lose" "World.lose" (zw (zj bd 26) 11) "movehouse.world" (nat_lit 559) (nat_lit 392)
noncomputable def zse (P:Params):Obj:=cO "home" "World.home" (nat_lit 694) (nat_lit 394) (nat_lit 700) 224 2
noncomputable def zul (P:Params):Obj:=fO "home" "World.home" (zw (zj bd 26) 12) "movehouse.world" (nat_lit 559) (nat_lit 399)
noncomputable def zs5 (P:Params):Obj:=cO "move" "World.move" (nat_lit 703) (nat_lit 401) (nat_lit 709) 231 2
noncomputable def zwd (P:Params):Obj:=fO "move" "World.move" (zw (zj bd 26) 13) "movehouse.world" (nat_lit 559) (nat_lit 406)
noncomputable def ztp (P:Params):Obj:=cO "has" "World.has" (nat_lit 712) (nat_lit 408) (nat_lit 718) 237 3
noncomputable def zvn (P:Params):Obj:=fO "has" "World.has" (zw (zj bd 26) 14) "movehouse.world" (nat_lit 559) (nat_lit 413)
noncomputable def ztd (P:Params):Obj:=cO "write" "World.write" (nat_lit 721) (nat_lit 415) (nat_lit 727) 242 2
noncomputable def zrj (P:Params):Obj:=fO "write" "World.write" (zw (zj bd 26) 15) "movehouse.world" (nat_lit 559) (nat_lit 420)
noncomputable def zup (P:Params):Obj:=cO "sleep" "World.sleep" (nat_lit 730) (nat_lit 422) (nat_lit 735) 248 2
noncomputable def zsf (P:Params):Obj:=fO "sleep" "World.sleep" (zw (zj bd 26) 16) "movehouse.world" (nat_lit 559) (nat_lit 427)
noncomputable def zuv (P:Params):Obj:=cO "nudge" "World.nudge" (nat_lit 738) (nat_lit 429) (nat_lit 743) 252 2
noncomputable def zsr (P:Params):Obj:=fO "nudge" "World.nudge" (zw (zj bd 26) 17) "movehouse.world" (nat_lit 559) (nat_lit 434)
noncomputable def zsi (P:Params):Obj:=cO "ledger" "World.ledger" (nat_lit 746) (nat_lit 436) (nat_lit 750) 256 1
noncomputable def zt1 (P:Params):Obj:=fO "ledger" "World.ledger" (zw (zj bd 26) 18) "movehouse.world" (nat_lit 559) (nat_lit 441)
noncomputable def zuf (P:Params):Obj:=cO "asking" "World.asking" (nat_lit 753) (nat_lit 443) (nat_lit 758) 259 2
noncomputable def zvh (P:Params):Obj:=fO "asking" "World.asking" (zw (zj bd 26) 19) "movehouse.world" (nat_lit 559) (nat_lit 448)
noncomputable def ztb (P:Params):Obj:=cO "answers" "World.answers" (nat_lit 761) (nat_lit 450) (nat_lit 766) 263 2
noncomputable def ztu (P:Params):Obj:=fO "answers" "World.answers" (zw (zj bd 26) 20) "movehouse.world" (nat_lit 559) (nat_lit 455)
noncomputable def zrp (P:Params):Obj:=cO "owes" "World.owes" (nat_lit 769) (nat_lit 457) (nat_lit 774) 267 2
noncomputable def zu5 (P:Params):Obj:=fO "owes" "World.owes" (zw (zj bd 26) 21) "movehouse.world" (nat_lit 559) (nat_lit 462)
noncomputable def zr6 (P:Params):Obj:=cO "is_settled" "World.is_settled" (nat_lit 777) (nat_lit 464) (nat_lit 782) 271 1
noncomputable def zv6 (P:Params):Obj:=fO "is_settled" "World.is_settled" (zw (zj bd 26) 22) "movehouse.world" (nat_lit 559) (nat_lit 469)
noncomputable def zrn (P:Params):Obj:=cO "one_round" "World.one_round" (nat_lit 785) (nat_lit 471) (nat_lit 792) 277 1
noncomputable def zrh (P:Params):Obj:=fO "one_round" "World.one_round" (zw (zj bd 26) 23) "movehouse.world" (nat_lit 559) (nat_lit 476)
noncomputable def zto (P:Params):Obj:=cO "settle" "World.settle" (nat_lit 795) (nat_lit 478) (nat_lit 800) 289 1
noncomputable def zvi (P:Params):Obj:=fO "settle" "World.settle" (zw (zj bd 26) 24) "movehouse.world" (nat_lit 559) (nat_lit 483)
noncomputable def zs8 (P:Params):Obj:=dE (nat_lit 4) [eS P "__module__" (nat_lit 591) "movehouse.world" (nat_lit 559),eV P "__firstlineno__" (nat_lit 595) (.int 159 594),eR P "__init__" (nat_lit 601) (nat_lit 316),eR P "need_caller" (nat_lit 609) (nat_lit 323),eR P "need_house" (nat_lit 617) (nat_lit 330),eR P "need_key" (nat_lit 625) (nat_lit 337),eR P "need_place" (nat_lit 633) (nat_lit 344),eR P "call" (nat_lit 645) (nat_lit 351),eR P "again" (nat_lit 654) (nat_lit 358),eR P "letters" (nat_lit 661) (nat_lit 365),eR P "brought" (nat_lit 669) (nat_lit 372),eR P "hand" (nat_lit 677) (nat_lit 379),eR P "twice" (nat_lit 685) (nat_lit 386),eR P "lose" (nat_lit 693) (nat_lit 393),eR P "home" (nat_lit 702) (nat_lit 400),eR P "move" (nat_lit 711) (nat_lit 407),eR P "has" (nat_lit 720) (nat_lit 414),eR P "write" (nat_lit 729) (nat_lit 421),eR P "sleep" (nat_lit 737) (nat_lit 428),eR P "nudge" (nat_lit 745) (nat_lit 435),eR P "ledger" (nat_lit 752) (nat_lit 442),eR P "asking" (nat_lit 760) (nat_lit 449),eR P "answers" (nat_lit 768) (nat_lit 456),eR P "owes" (nat_lit 776) (nat_lit 463),eR P "is_settled" (nat_lit 784) (nat_lit 470),eR P "one_round" (nat_lit 794) (nat_lit 477),eR P "settle" (nat_lit 802) (nat_lit 484),eR P "__static_attributes__" (nat_lit 808) (nat_lit 485),eR P "__dict__" (nat_lit 810) (nat_lit 488),eR P "__weakref__" (nat_lit 812) (nat_lit 489),eV P "__doc__" (nat_lit 813) .none]
noncomputable def zuc (P:Params):Obj:={ cls:=.type "type",data:=.cls { name:=Str.ofString "World",bases:=[.type "object"],mro:=[.ref 487,.type "object"],ns:=486,qualname:=Str.ofString "World" },slots:=#[none,none,some (.str "World" 584),some (.str "World" 592),some (.builtin "object.__new__"),some (.bool true)] }
noncomputable def hp9 (P:Params):List Obj:=(((hp8 P).set 3 (dE (nat_lit 31) (zr3 P))).set 12 (pO [(2,0,20),(30,0,76),(32,0,89),(34,0,101),(36,0,113),(38,0,125),(40,0,137),(42,0,149),(44,0,161),(46,0,173),(48,0,185),(52,0,197),(54,0,204),(63,0,211),(70,0,218),(144,0,296),(151,0,303),(159,0,310)])) ++ [tE,{ cls:=.type "builtin_function_or_method",data:=.fields #[.builtin "type.__prepare__",.type "type"] },zuk P,tE,pO [(161,4,315),(169,4,322),(173,4,329),(177,4,336),(181,4,343),(185,4,350),(196,4,357),(203,4,364),(206,4,371),(212,4,378),(216,4,385),(220,4,392),(224,4,399),(231,4,406),(237,4,413),(242,4,420),(248,4,427),(252,4,434),(256,4,441),(259,4,448),(263,4,455),(267,4,462),(271,4,469),(277,4,476),(289,4,483)],zvy P,{ cls:=.type "frame",slots:=#[some (.ref 310),some (.ref 3),some (.ref 307),none,some (.str "movehouse.world" 559),none,some (.ref 0)] },tE,nE,gO "__init__" "World.__init__" (zw (zj bd 26) 0),zuo P,zwk P,tE,nE,tS (nat_lit 605) ["self","caller"],tE,gO "need_caller" "World.need_caller" (zw (zj bd 26) 1),zwi P,ztj P,tE,nE,tS (nat_lit 613) ["self","house"],tE,gO "need_house" "World.need_house" (zw (zj bd 26) 2),zwa P,zrz P,tE,nE,tS (nat_lit 621) ["self","key"],tE,gO "need_key" "World.need_key" (zw (zj bd 26) 3),zs6 P,zrl P,tE,nE,tS (nat_lit 629) ["self","place"],tE,gO "need_place" "World.need_place" (zw (zj bd 26) 4),zq5 P,zua P,tE,nE,tS (nat_lit 637) ["self","caller","house","key","wish","number"],tE,gO "call" "World.call" (zw (zj bd 26) 5),ztf P,zra P,tE,nE,tS (nat_lit 649) ["self","caller","house"],tE,gO "again" "World.again" (zw (zj bd 26) 6),zta P,zq2 P,tE,nE,tS (nat_lit 658) ["self"],tE,gO "letters" "World.letters" (zw (zj bd 26) 7),zvw P,zus P,tE,nE,tS (nat_lit 665) ["self","letter"],tE,gO "brought" "World.brought" (zw (zj bd 26) 8),zv2 P,zs1 P,tE,nE,tS (nat_lit 673) ["self","place"],tE,gO "hand" "World.hand" (zw (zj bd 26) 9),zur P,zvv P,tE,nE,tS (nat_lit 681) ["self","place"],tE,gO "twice" "World.twice" (zw (zj bd 26) 10),zu4 P,zvm P,tE,nE,tS (nat_lit 689) ["self","place"],tE,gO "lose" "World.lose" (zw (zj bd 26) 11),zud P,zwb P,tE,nE,tS (nat_lit 697) ["self","key","house"],tE,gO "home" "World.home" (zw (zj bd 26) 12),zse P,zul P,tE,nE,tS (nat_lit 706) ["self","key","home"],tE,gO "move" "World.move" (zw (zj bd 26) 13),zs5 P,zwd P,tE,nE,tS (nat_lit 715) ["self","house","key"],tE,gO "has" "World.has" (zw (zj bd 26) 14),ztp P,zvn P,tE,nE,tS (nat_lit 724) ["self","house","found"],tE,gO "write" "World.write" (zw (zj bd 26) 15),ztd P,zrj P,tE,nE,tS (nat_lit 733) ["self","house"],tE,gO "sleep" "World.sleep" (zw (zj bd 26) 16),zup P,zsf P,tE,nE,tS (nat_lit 741) ["self","house"],tE,gO "nudge" "World.nudge" (zw (zj bd 26) 17),zuv P,zsr P,tE,nE,tS (nat_lit 749) ["self"],tE,gO "ledger" "World.ledger" (zw (zj bd 26) 18),zsi P,zt1 P,tE,nE,tS (nat_lit 756) ["self","caller"],tE,gO "asking" "World.asking" (zw (zj bd 26) 19),zuf P,zvh P,tE,nE,tS (nat_lit 764) ["self","caller"],tE,gO "answers" "World.answers" (zw (zj bd 26) 20),ztb P,ztu P,tE,nE,tS (nat_lit 772) ["self","house"],tE,gO "owes" "World.owes" (zw (zj bd 26) 21),zrp P,zu5 P,tE,nE,tS (nat_lit 780) ["self","caller"],tE,gO "is_settled" "World.is_settled" (zw (zj bd 26) 22),zr6 P,zv6 P,tE,nE,tS (nat_lit 788) ["self","house","caller","k"],tE,gO "one_round" "World.one_round" (zw (zj bd 26) 23),zrn P,zrh P,tE,nE,tS (nat_lit 798) ["self","rounds"],tE,gO "settle" "World.settle" (zw (zj bd 26) 24),zto P,zvi P,tS (nat_lit 803) ["all_keys","callers","houses","post","rows"],zs8 P,zuc P,{ cls:=.type "getset_descriptor",data:=.fields #[.str "__dict__" 809,.ref 487,.builtin "function.__dict__",.builtin "function.__dict__#set"] },{ cls:=.type "getset_descriptor",data:=.fields #[.str "__weakref__" 811,.ref 487,.builtin "ExceptionGroup.__weakref__",.none] },{ cls:=.type "super",data:=.fields #[.ref 487,.ref 487,.ref 487] },{ cls:=.type "builtin_function_or_method",data:=.fields #[.builtin "object.__init_subclass__",.ref 487] }]
noncomputable def S9 (w:World) (os:OsState):Shared:=⟨⟨⟨hp9 w.params⟩,{ }⟩,#[],{ },816,os⟩
noncomputable def zvf (P:Params):List DictEntry:=((zr3 P).set 0 (eS P "__name__" (nat_lit 165) "law_uf030007_15" (nat_lit 816))) ++ [eR P "_law_cell_at" (nat_lit 825) (nat_lit 498),eR P "_law_whole" (nat_lit 832) (nat_lit 505),eR P "_law_wish" (nat_lit 840) (nat_lit 512),eR P "_law_keys" (nat_lit 846) (nat_lit 517),eR P "_law_deed" (nat_lit 862) (nat_lit 524),eR P "_law_is_settled" (nat_lit 868) (nat_lit 529),eR P "_law_all_told" (nat_lit 874) (nat_lit 534),eR P "_law_settles" (nat_lit 888) (nat_lit 541),eR P "law" (nat_lit 900) (nat_lit 548)]
noncomputable def o3 (P:Params):Obj:=dE (nat_lit 40) (zvf P)
noncomputable def zun (P:Params):Obj:=cO "_law_cell_at" "_law_cell_at" (nat_lit 818) (nat_lit 492) (nat_lit 823) 296 2
noncomputable def zr9 (P:Params):Obj:=fO "_law_cell_at" "_law_cell_at" (zw bd 28) "law_uf030007_15" (nat_lit 816) (nat_lit 497)
noncomputable def zue (P:Params):Obj:=cO "_law_whole" "_law_whole" (nat_lit 826) (nat_lit 499) (nat_lit 830) 300 1
noncomputable def zt5 (P:Params):Obj:=fO "_law_whole" "_law_whole" (zw bd 29) "law_uf030007_15" (nat_lit 816) (nat_lit 504)
noncomputable def zs4 (P:Params):Obj:=cO "_law_wish" "_law_wish" (nat_lit 833) (nat_lit 506) (nat_lit 838) 302 1
noncomputable def ztz (P:Params):Obj:=fO "_law_wish" "_law_wish" (zw bd 30) "law_uf030007_15" (nat_lit 816) (nat_lit 511)
noncomputable def zs2 (P:Params):Obj:=kO "_law_keys" "_law_keys" (nat_lit 841) (nat_lit 513) (nat_lit 844) 307 1
noncomputable def zr5 (P:Params):Obj:=fO "_law_keys" "_law_keys" (zw bd 31) "law_uf030007_15" (nat_lit 816) (nat_lit 516)
noncomputable def zr8 (P:Params):Obj:=cO "_law_deed" "_law_deed" (nat_lit 847) (nat_lit 518) (nat_lit 860) 317 4
noncomputable def zsb (P:Params):Obj:=fO "_law_deed" "_law_deed" (zw bd 32) "law_uf030007_15" (nat_lit 816) (nat_lit 523)
noncomputable def zsn (P:Params):Obj:=kO "_law_is_settled" "_law_is_settled" (nat_lit 863) (nat_lit 525) (nat_lit 866) 344 2
noncomputable def zv5 (P:Params):Obj:=fO "_law_is_settled" "_law_is_settled" (zw bd 33) "law_uf030007_15" (nat_lit 816) (nat_lit 528)
noncomputable def zvq (P:Params):Obj:=kO "_law_all_told" "_law_all_told" (nat_lit 869) (nat_lit 530) (nat_lit 872) 348 4
noncomputable def zv8 (P:Params):Obj:=fO "_law_all_told" "_law_all_told" (zw bd 34) "law_uf030007_15" (nat_lit 816) (nat_lit 533)
noncomputable def zrx (P:Params):Obj:=cO "_law_settles" "_law_settles" (nat_lit 875) (nat_lit 535) (nat_lit 886) 361 4
noncomputable def zs3 (P:Params):Obj:=fO "_law_settles" "_law_settles" (zw bd 35) "law_uf030007_15" (nat_lit 816) (nat_lit 540)
noncomputable def zum (P:Params):Obj:=cO "law" "law" (nat_lit 889) (nat_lit 542) (nat_lit 898) 373 1
noncomputable def zsg (P:Params):Obj:=fO "law" "law" (zw bd 36) "law_uf030007_15" (nat_lit 816) (nat_lit 547)
noncomputable def zsk (P:Params):List Obj:=(((hp9 P).set 3 (o3 P)).set 12 (pO [(2,0,20),(30,0,76),(32,0,89),(34,0,101),(36,0,113),(38,0,125),(40,0,137),(42,0,149),(44,0,161),(46,0,173),(48,0,185),(52,0,197),(54,0,204),(63,0,211),(70,0,218),(144,0,296),(151,0,303),(159,0,310),(296,0,497),(300,0,504),(302,0,511),(307,0,516),(317,0,523),(344,0,528),(348,0,533),(361,0,540),(373,0,547)])) ++ [tE,nE,tS (nat_lit 821) ["_law_script","_law_k"],tE,gO "_law_cell_at" "_law_cell_at" (zw bd 28),zun P,zr9 P,tE,nE,tS (nat_lit 829) ["_law_found"],tE,gO "_law_whole" "_law_whole" (zw bd 29),zue P,zt5 P,tE,nE,tS (nat_lit 836) ["_law_cell","_law_number"],tE,gO "_law_wish" "_law_wish" (zw bd 30),zs4 P,ztz P,tE,nE,gO "_law_keys" "_law_keys" (zw bd 31),zs2 P,zr5 P,tE,nE,tS (nat_lit 850) ["_law_world","_law_keys_here","_law_callers","_law_cell","_law_more","_law_house","_law_many","_law_caller","_law_key","_law_wish_here"],tE,gO "_law_deed" "_law_deed" (zw bd 32),zr8 P,zsb P,tE,nE,gO "_law_is_settled" "_law_is_settled" (zw bd 33),zsn P,zv5 P,tE,nE,gO "_law_all_told" "_law_all_told" (zw bd 34),zvq P,zv8 P,tE,nE,tS (nat_lit 878) ["_law_world","_law_keys_here","_law_callers","_law_begun","_law_ready","_law_rounds","_law_letters","_law_ledger"],tE,gO "_law_settles" "_law_settles" (zw bd 35),zrx P,zs3 P,tE,nE,tS (nat_lit 892) ["_law_script","_law_keys_here","_law_callers","_law_world","_law_begun","_law_cell"],tE,gO "law" "law" (zw bd 36),zum P,zsg P]
noncomputable def S10 (w:World) (os:OsState):Shared:=⟨⟨⟨zsk w.params⟩,{ }⟩,#[],{ },901,os⟩
noncomputable def hpf (P:Params):List Obj:=(zsk P)
noncomputable def Sf (w:World) (os:OsState):Shared:=⟨⟨⟨hpf w.params⟩,{ }⟩,#[],{ },901,os⟩
noncomputable def K (P:Params):Frag :=
 [(2,boot_o_2 P),(3,o3 P),(13,o13 P),(17,o17 P),(20,o20 P),(27,o27 P),(28,o28 P),(34,o34 P),(35,o35 P),(41,o41 P),(42,o42 P),(48,o48 P),(49,o49 P),(55,o55 P),(56,o56 P),(62,o62 P),(63,o63 P),(65,o65 P),(66,o66 P),(73,o73 P),(76,o76 P),(79,o79 P),(80,o80 P),(86,o86 P),(89,o89 P),(92,o92 P),(93,o93 P),(98,o98 P),(101,zsd P),(104,zvd P),(105,zq3 P),(110,zq6 P),(113,zt2 P),(116,zwj P),(117,zu0 P),(122,zvj P),(125,zsz P),(128,zu3 P),(129,zrb P),(134,zts P),(137,zr7 P),(140,zvb P),(141,zsh P),(146,zrd P),(149,ztt P),(152,zvp P),(153,zty P),(158,zri P),(161,zr1 P),(164,zsy P),(165,zt0 P),(170,zt7 P),(173,ztm P),(176,zve P),(177,zst P),(182,zru P),(185,zrw P),(188,zui P),(189,zsq P),(197,zq9 P),(198,zq7 P),(204,zt3 P),(205,zwn P),(211,zvx P),(212,ztc P),(215,zv3 P),(218,zrq P),(225,zu7 P),(226,ztx P),(232,zv4 P),(233,zvo P),(237,zsa P),(238,zsv P),(244,zuq P),(245,ztq P),(249,zux P),(250,zwl P),(256,zt8 P),(257,zu2 P),(263,zrr P),(264,zsp P),(270,zrk P),(271,zv7 P),(277,zq8 P),(278,zre P),(282,ztv P),(283,zwh P),(285,zwe P),(286,zvr P),(296,zsx P),(297,zuh P),(303,zsu P),(304,zte P),(307,zuk P),(310,zvy P),(315,zuo P),(316,zwk P),(322,zwi P),(323,ztj P),(329,zwa P),(330,zrz P),(336,zs6 P),(337,zrl P),(343,zq5 P),(344,zua P),(350,ztf P),(351,zra P),(357,zta P),(358,zq2 P),(364,zvw P),(365,zus P),(371,zv2 P),(372,zs1 P),(378,zur P),(379,zvv P),(385,zu4 P),(386,zvm P),(392,zud P),(393,zwb P),(399,zse P),(400,zul P),(406,zs5 P),(407,zwd P),(413,ztp P),(414,zvn P),(420,ztd P),(421,zrj P),(427,zup P),(428,zsf P),(434,zuv P),(435,zsr P),(441,zsi P),(442,zt1 P),(448,zuf P),(449,zvh P),(455,ztb P),(456,ztu P),(462,zrp P),(463,zu5 P),(469,zr6 P),(470,zv6 P),(476,zrn P),(477,zrh P),(483,zto P),(484,zvi P),(486,zs8 P),(487,zuc P),(497,zun P),(498,zr9 P),(504,zue P),(505,zt5 P),(511,zs4 P),(512,ztz P),(516,zs2 P),(517,zr5 P),(523,zr8 P),(524,zsb P),(528,zsn P),(529,zv5 P),(533,zvq P),(534,zv8 P),(540,zrx P),(541,zs3 P),(547,zum P),(548,zsg P)]
noncomputable def asL:List Addr:=[2,3,13,17,20,27,28,34,35,41,42,48,49,55,56,62,63,65,66,73,76,79,80,86,89,92,93,98,101,104,105,110,113,116,117,122,125,128,129,134,137,140,141,146,149,152,153,158,161,164,165,170,173,176,177,182,185,188,189,197,198,204,205,211,212,215,218,225,226,232,233,237,238,244,245,249,250,256,257,263,264,270,271,277,278,282,283,285,286,296,297,303,304,307,310,315,316,322,323,329,330,336,337,343,344,350,351,357,358,364,365,371,372,378,379,385,386,392,393,399,400,406,407,413,414,420,421,427,428,434,435,441,442,448,449,455,456,462,463,469,470,476,477,483,484,486,487,497,498,504,505,511,512,516,517,523,524,528,529,533,534,540,541,547,548]
noncomputable def H:Hook:=kHook K asL (fun _=>by kernel_rfl)
theorem zr2 (w:World) (os:OsState):topGo treeTable p w 11 (some (Value.ref 6)) 12 ⟨boot_heap w.params,#[],boot_drawn,boot_toks,os⟩ (topStub p)=some (Sa w os,⟨denote treeTable cd,cd,{ line:=0,col:=0,endLine:=0,endCol:=0 },[topFrame q]⟩):=by kernel_rfl
theorem zuu (w:World) (os:OsState):segRun treeTable p w 11 (some (Value.ref 6)) 1 1 (Sa w os) (blockOf r0 env cd { line:=0,col:=0,endLine:=0,endCol:=0 } [topFrame q])=some (.next,Sb w os,cd,{ line:=0,col:=0,endLine:=0,endCol:=0 }):=by kernel_rfl
theorem t0 (w:World) (os:OsState):segRun treeTable p w 11 (some (Value.ref 6)) 1 405 (Sb w os) (piecesOf l0 env cd { line:=0,col:=0,endLine:=0,endCol:=0 } [topFrame q])=some (.next,S0 w os,cd,{ line:=29,col:=0,endLine:=29,endCol:=8 }):=by kernel_rfl
theorem t1 (w:World) (os:OsState):segRun treeTable p w 11 (some (Value.ref 6)) 1 400 (S0 w os) (piecesOf l1 env cd { line:=29,col:=0,endLine:=29,endCol:=8 } [topFrame q])=some (.next,S1 w os,cd,{ line:=32,col:=0,endLine:=33,endCol:=8 }):=by kernel_rfl
theorem t2 (w:World) (os:OsState):segRun treeTable p w 11 (some (Value.ref 6)) 1 427 (S1 w os) (piecesOf l2 env cd { line:=32,col:=0,endLine:=33,endCol:=8 } [topFrame q])=some (.next,S2 w os,cd,{ line:=36,col:=0,endLine:=37,endCol:=8 }):=by kernel_rfl
theorem t3 (w:World) (os:OsState):segRun treeTable p w 11 (some (Value.ref 6)) 1 427 (S2 w os) (piecesOf l3 env cd { line:=36,col:=0,endLine:=37,endCol:=8 } [topFrame q])=some (.next,S3 w os,cd,{ line:=40,col:=0,endLine:=41,endCol:=8 }):=by kernel_rfl
theorem t4 (w:World) (os:OsState):segRun treeTable p w 11 (some (Value.ref 6)) 1 427 (S3 w os) (piecesOf l4 env cd { line:=40,col:=0,endLine:=41,endCol:=8 } [topFrame q])=some (.next,S4 w os,cd,{ line:=44,col:=0,endLine:=45,endCol:=8 }):=by kernel_rfl
theorem t5 (w:World) (os:OsState):segRun treeTable p w 11 (some (Value.ref 6)) 1 451 (S4 w os) (piecesOf l5 env cd { line:=44,col:=0,endLine:=45,endCol:=8 } [topFrame q])=some (.next,S5 w os,cd,{ line:=51,col:=0,endLine:=51,endCol:=8 }):=by kernel_rfl
theorem t6 (w:World) (os:OsState):segRun treeTable p w 11 (some (Value.ref 6)) 1 98 (S5 w os) (piecesOf l6 env cd { line:=51,col:=0,endLine:=51,endCol:=8 } [topFrame q])=some (.next,S6 w os,cd,{ line:=69,col:=0,endLine:=69,endCol:=8 }):=by kernel_rfl
theorem t7 (w:World) (os:OsState):segRun treeTable p w 11 (some (Value.ref 6)) 1 507 (S6 w os) (piecesOf l7 env cd { line:=69,col:=0,endLine:=69,endCol:=8 } [topFrame q])=some (.next,S7 w os,cd,{ line:=70,col:=0,endLine:=139,endCol:=110 }):=by kernel_rfl
theorem t8 (w:World) (os:OsState):segRun treeTable p w 11 (some (Value.ref 6)) 1 98 (S7 w os) (piecesOf l8 env cd { line:=70,col:=0,endLine:=139,endCol:=110 } [topFrame q])=some (.next,S8 w os,cd,{ line:=151,col:=0,endLine:=158,endCol:=51 }):=by kernel_rfl
theorem t9 (w:World) (os:OsState):segRun treeTable p w 11 (some (Value.ref 6)) 1 1000 (S8 w os) (piecesOf l9 env cd { line:=151,col:=0,endLine:=158,endCol:=51 } [topFrame q])=some (.next,S9 w os,cd,{ line:=159,col:=0,endLine:=294,endCol:=21 }):=by kernel_rfl
theorem t10 (w:World) (os:OsState):segRun treeTable p w 11 (some (Value.ref 6)) 1 285 (S9 w os) (piecesOf l10 env cd { line:=159,col:=0,endLine:=294,endCol:=21 } [topFrame q])=some (.next,S10 w os,cd,{ line:=373,col:=0,endLine:=384,endCol:=77 }):=by kernel_rfl
theorem zr0 (w:World) (os:OsState):topRun treeTable p w 11 (some (Value.ref 6)) 2 (S10 w os) ⟨doneF .next,cd,{ line:=373,col:=0,endLine:=384,endCol:=77 },[topFrame q]⟩=some (Sf w os):=by kernel_rfl
theorem zsm (w:World) (os:OsState):topRun treeTable p w 11 (some (Value.ref 6)) (12 + (1 + (405 + (400 + (427 + (427 + (427 + (451 + (98 + (507 + (98 + (1000 + (285 + (2)))))))))))))) ⟨boot_heap w.params,#[],boot_drawn,boot_toks,os⟩ (topStub p)=some (Sf w os) :=
 go_top (zr2 w os) (piece_block (zuu w os) (piece_app (l:=l0) (rest:=r1) (t0 w os) (piece_app (l:=l1) (rest:=r2) (t1 w os) (piece_app (l:=l2) (rest:=r3) (t2 w os) (piece_app (l:=l3) (rest:=r4) (t3 w os) (piece_app (l:=l4) (rest:=r5) (t4 w os) (piece_app (l:=l5) (rest:=r6) (t5 w os) (piece_app (l:=l6) (rest:=r7) (t6 w os) (piece_app (l:=l7) (rest:=r8) (t7 w os) (piece_app (l:=l8) (rest:=r9) (t8 w os) (piece_app (l:=l9) (rest:=r10) (t9 w os) (piece_app (l:=l10) (rest:=r11) (t10 w os) (piece_nil (zr0 w os))))))))))))))
theorem lft:LeftO p view [Str.ofString "GREATEST"] (fun s=>xlAt view [(Str.ofString "GREATEST",.int 1000000000000000000000000000000)] s && recOk (RowW.records PySem.Challenge.rw_uf030007_15.row.toRowW) s) (Hook.obs H) (Hook.val H) 9754 :=
 LeftO.of_pieces (H₀:=boot_heap) (H₁:=fun P=>⟨⟨hpf P⟩,{ }⟩) (boot_open (by kernel_rfl) (by kernel_rfl) (fun _=>by kernel_rfl)) (fun w=>by kernel_rfl) zsm (by kernel_rfl) (fun w=>by kernel_rfl)
end Mine.L15
end

section
open PySem PySem.W PyProof.Rows
set_option maxRecDepth 100000
set_option maxHeartbeats 8000000
namespace Mine.L15
noncomputable def nm : Names where
  fn f := (fnn.lookup f).getD Str.empty
  cls c := (["World", "House", "Caller"] : List PySem.Str)[c]?.getD Str.empty
  meth m := (["has", "owes", "came", "called", "parcel", "move", "write", "sleep", "nudge", "begin", "letter", "asking", "answers", "need_caller", "need_house", "need_key", "need_place", "call", "again", "letters", "brought", "hand", "twice", "lose", "home", "ledger", "is_settled", "one_round", "settle"] : List PySem.Str)[m]?.getD Str.empty
  attr := xz
  exc c := (["MoveError", "BadWorld", "NoCaller", "NoHouse", "NoKey", "BadWish", "Busy", "Idle", "NotHere", "NoLetter"] : List PySem.Str)[c]?.getD Str.empty
  gi := [("GREATEST", 1000000000000000000000000000000), ("MOST", 6), ("LONGEST", 8)]
  gs := [("LETTERS", [97, 98, 99, 100, 101, 102, 103, 104, 105, 106, 107, 108, 109, 110, 111, 112, 113, 114, 115, 116, 117, 118, 119, 120, 121, 122])]
  xs := xsl
  xf f := xfl.contains f
  xm k := xml.contains k
  qf f := qfl.contains f
noncomputable def tab : Tab := ⟨[(0, 198), (1, 205), (2, 212), (4, 297), (5, 304), (100, 498), (102, 512), (103, 517), (118, 548), (120, 505), (121, 524), (122, 529), (123, 534), (124, 541), (11, 35), (12, 42), (13, 49), (14, 56), (15, 63), (21, 233), (22, 238), (23, 245), (24, 250), (25, 257), (26, 264), (27, 271), (28, 278), (29, 283), (41, 323), (42, 330), (43, 337), (44, 344), (45, 351), (46, 358), (47, 365), (48, 372), (49, 379), (50, 386), (51, 393), (52, 400), (53, 407), (54, 414), (55, 421), (56, 428), (57, 435), (58, 442), (59, 449), (60, 456), (61, 463), (62, 470), (63, 477), (64, 484), (10, 28), (20, 226), (40, 316)], [(0, 487), (1, 286), (2, 66)], fnl, mel, inl, xbl⟩
end Mine.L15
open Mine in
theorem PySem.Challenge.cw_uf030007_15_holds : PySem.Challenge.rw_uf030007_15.Holds := by
  refine holds_law (by kernel_rfl) fun said => ?_
  refine holds_open (q := L15.view) (loose := [Str.ofString "GREATEST"]) (Xt := fun s => xlAt L15.view [(Str.ofString "GREATEST", .int 1000000000000000000000000000000)] s && recOk (RowW.records PySem.Challenge.rw_uf030007_15.row.toRowW) s) (XP := XL L15.view [(Str.ofString "GREATEST", .int 1000000000000000000000000000000)]) (Yf := Hook.obs L15.H) (Ya := Hook.val L15.H) (YP := Hook.says L15.H) (N := 9754) L15.lft (Hook.of L15.H) (Hook.keeps L15.H) (fun s e => xl_of s (Bool.and_eq_true_iff.mp e).1) XL.keeps (by rfl) (by rfl) (by rfl) (fun s e => recFacts_of (Bool.and_eq_true_iff.mp e).2) (by rfl) (by first | assumption | decide +kernel) (by decide +kernel) ⟨rfl, rfl, rfl, rfl, rfl, by decide +kernel⟩ ?hw ?hc
  case hw => w_witness2
  intro w s₀ s₁ mg mb G Y fa o pm cd doc dV kV ho hd hcd hD hmg hg args vals as hpre hlay hrd hwl hlo
  have KX := kIn_of Y
  clear ho hd hcd hD
  refine Ground.open G ?_
  intro T B D TE TW
  wrow_args hpre hlay hrd hwl hlo
  refine enter_call ?_
  rename_i ns hs h0 hlay hx1 hx2 a1 a2 la vs a3 hL ra w1 r0 hI rr hc1 hc2
  have hlen : ns.length ≤ 63 := by omega
  have hbits : ∀ i ∈ ns, intBits i ≤ 1048576 := zh0 hlay
  have S := zmf (T := L15.tab) (N := L15.nm) (prog := PySem.Challenge.rw_uf030007_15.row.prog) (w := w) rfl KX T.g T.b T.builtins T.nolimit (by kernel_rfl) (by kernel_rfl) (by kernel_rfl) (by kernel_rfl) (by kernel_rfl) (fun y c h => by cases h) (by kernel_rfl) (by kernel_rfl) (by kernel_rfl)
  have hfa : fa = 548 := by
    have e := o7 KX T.g (by kernel_rfl) (Str.ofString "law")
    have e3 := hmg.symm.trans (e.trans (b := uf _ _) (c := some (Value.ref 548)) (by kernel_rfl))
    cases e3; rfl
  subst hfa
  obtain ⟨v, st', hrun, rfl⟩ := qz (L15.law_ok 10 ns hlen)
  cases w1 with
  | list hz _ =>
    rename_i vs' _
    have hvs : vs' = vs := by
      obtain ⟨o, h1, h2, n, h3⟩ := hL
      rw [hz] at h1
      cases h1
      simp at h3; exact h3.1
    subst hvs
    refine zgj S (by kernel_rfl) (by intro G C n H; kernel_rfl) (by intro G C n H; kernel_rfl) (n := 20) (law := 118) ⟨fun _ => rfl, by decide, by decide⟩ rfl hz hlen hI hrun fun s' hk hos hgens => GoodW.toG ?_
    refine ⟨.inl ⟨.bool true, .bool true, [], rfl, raisesW_false (by wrow_none_raised), ?_, ?_, fun _ => ⟨List.nodup_nil, fun a h => by cases h⟩⟩, hk, hos, hgens.trans hg⟩
    · constructor
    · wrow_post
end
